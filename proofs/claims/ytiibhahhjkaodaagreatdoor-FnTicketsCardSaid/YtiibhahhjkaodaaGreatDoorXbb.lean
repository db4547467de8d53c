/- Several texts, one behind the other. -/
import Derived.Test.YtiibhahhjkaodaaGreatDoorProg
import Derived.Test.YtiibhahhjkaodaaGreatDoorXaa
import Derived.Test.YtiibhahhjkaodaaGreatDoorXab
import Derived.Test.YtiibhahhjkaodaaGreatDoorXba
/- What these functions of the program hand back, each proved by walking its operations. -/
set_option linter.unusedVariables false
set_option linter.unusedSimpArgs false
set_option maxRecDepth 4000
namespace Go.Proofs.YtiibhahhjkaodaaGreatDoor
open Go Go.Sx Go.RowKit Go.W Go.Proofs
attribute [local irreducible] Ex ExL ExD Op1 Free RetQ MutQ Reads CellO SegO LoadsAs
theorem e_118 : Enters Tryz.prog 118 := Enters.of Tryz.func118 rfl
theorem c_until (d : VDev) (hk : OkDev d) (hv : validDev d = true) (Ad : Option Addr) (cd : Nat) (b : Nat) (st : Int) (hst : st = 1 ∨ st = -1) : Ret Tryz.prog 118 [.pointer (some ⟨b, 0, none⟩), .int .i64 st] (fun w => Rd w (some ⟨b, 0, none⟩) (encV Ad cd d) ∧ Rd w Ad (d.stack.flatMap (eI .u8))) (fun x : Unit => .int .i64 (untilV d st)) (fun x => []) (fun x => True) := by
  refine Ret.of e_118 Tryz.func118 rfl Tryz.ntmps118 rfl rfl (fun w hpre => ?_)
  have hp := hpre.1.base
  have hd := hpre.2.base
  obtain ⟨hl, hu, ha, hpp, htt⟩ := hk
  have hO := devOk ha hv
  have hvs : validStack d.stack = true := by unfold validDev at hv; rw [decide_eq_true_iff] at hv; exact hv.1
  have hvd := hO.vd
  have hm0 : maxLen = 9223372036854775807 := rfl
  have hz := sizeS hO
  have hle := hO.stk.le
  have hps := hO.stk.pos
  have hlt : 0 ≤ val d.stack d.shows.l ∧ val d.stack d.shows.l < prod d.stack := hO.v_lt
  have hpr := hO.preset
  have htk := hO.tick
  have hm1 : -1000000000001 ≤ st * (d.preset - val d.stack d.shows.l) ∧ st * (d.preset - val d.stack d.shows.l) ≤ 1000000000001 := by rcases hst with rfl | rfl <;> omega
  have hs2 := size_two hO.stk
  refine Ex.regSeq (ExL.pures 1 rfl ?_)
  refine ExL.nil ?_
  refine Ex.drawSeqM rfl ?_
  refine ExD.take (i := 0) rfl (by kernel_rfl) (pureVal_ok rfl) ((List.Sublist.refl _)) rfl rfl rfl ?_
  refine ExD.take (i := 1) rfl (by kernel_rfl) (pureVal_ok rfl) ((List.Sublist.refl _)) rfl rfl rfl ?_
  refine ExD.take (i := 2) rfl (by kernel_rfl) (pureVal_ok rfl) ((List.Sublist.refl _)) rfl rfl rfl ?_
  refine ExD.take (i := 3) rfl (by kernel_rfl) (pureVal_ok rfl) ((List.Sublist.refl _)) rfl rfl rfl ?_
  refine ExD.take (i := 4) rfl (by kernel_rfl) (fr_load rfl rfl rfl rfl (CellO.at 9 (Reads.old hp) rfl)) ((List.Sublist.refl _)) rfl rfl rfl ?_
  refine ExD.take (i := 5) rfl (by kernel_rfl) (pureVal_ok rfl) ((List.Sublist.refl _)) rfl rfl rfl ?_
  refine ExD.take (i := 6) rfl (by kernel_rfl) (pureVal_ok rfl) ((List.Sublist.refl _)) rfl rfl rfl ?_
  refine ExD.take (i := 7) rfl (by kernel_rfl) (pureVal_ok rfl) ((List.Sublist.refl _)) rfl rfl rfl ?_
  refine ExD.take (i := 8) rfl (by kernel_rfl) (fr_load rfl rfl rfl rfl (CellO.at 0 (Reads.old hp) rfl)) ((List.Sublist.refl _)) rfl rfl rfl ?_
  refine ExD.take (i := 9) rfl (by kernel_rfl) (pureVal_ok rfl) ((List.Sublist.refl _)) rfl rfl rfl ?_
  refine ExD.take (i := 10) rfl (by kernel_rfl) (pureVal_ok rfl) ((List.Sublist.refl _)) rfl rfl rfl ?_
  refine ExD.take (i := 11) rfl (by kernel_rfl) (pureVal_ok rfl) ((List.Sublist.refl _)) rfl rfl rfl ?_
  refine ExD.take (i := 12) rfl (by kernel_rfl) (fr_loadN rfl rfl rfl rfl rfl (SegO.at 1 8 (Reads.old hp) rfl)) ((List.Sublist.refl _)) rfl rfl rfl ?_
  refine ExD.take (i := 16) rfl (by kernel_rfl) (pureVal_ok rfl) ((List.Sublist.refl _)) rfl rfl rfl ?_
  refine ExD.take (i := 17) rfl (by kernel_rfl) (pureVal_ok rfl) ((List.Sublist.refl _)) rfl rfl rfl ?_
  refine ExD.take (i := 18) rfl (by kernel_rfl) (pureVal_ok rfl) ((List.Sublist.refl _)) rfl rfl rfl ?_
  refine ExD.take (i := 19) rfl (by kernel_rfl) (fr_load rfl rfl rfl rfl (CellO.at 0 (Reads.old hp) rfl)) ((List.Sublist.refl _)) rfl rfl rfl ?_
  refine ExD.op (i := 13) rfl (by kernel_rfl) rfl (op_ret rfl rfl rfl (c_value d.stack (by first | assumption | simp_all) _ _ d.shows (by assumption) (by first | assumption | simp_all)) (Reads.get (Reads.old hd)) rfl rfl (fun x1 hx1 => ⟨(List.Sublist.refl _), ?_⟩))
  refine ExD.take (i := 14) rfl (by kernel_rfl) (by first | exact fr_sub64 rfl rfl rfl (by omega) | exact fr_sub rfl rfl rfl) ((List.Sublist.refl _)) rfl rfl rfl ?_
  refine ExD.take (i := 15) rfl (by kernel_rfl) (by first | exact fr_mul64 rfl rfl rfl (by omega) | exact fr_mul rfl rfl rfl) ((List.Sublist.refl _)) rfl rfl rfl ?_
  refine ExD.op (i := 20) rfl (by kernel_rfl) rfl (op_ret rfl rfl rfl (c_size _ (by assumption) _ _ (by first | assumption | omega | (unfold maxLen; omega))) (Reads.get (Reads.old hd)) rfl rfl (fun x2 hx2 => ⟨(List.Sublist.refl _), ?_⟩))
  refine ExD.op (i := 21) rfl (by kernel_rfl) rfl (op_ret rfl rfl rfl (c_wrapped _ _ (by omega) (by omega)) (fun _ _ => trivial) rfl rfl (fun x3 hx3 => ⟨(List.Sublist.refl _), ?_⟩))
  refine ExD.take (i := 22) rfl (by kernel_rfl) (pureVal_ok rfl) ((List.Sublist.refl _)) rfl rfl rfl ?_
  refine ExD.take (i := 23) rfl (by kernel_rfl) (pureVal_ok rfl) ((List.Sublist.refl _)) rfl rfl rfl ?_
  refine ExD.take (i := 24) rfl (by kernel_rfl) (pureVal_ok rfl) ((List.Sublist.refl _)) rfl rfl rfl ?_
  refine ExD.take (i := 25) rfl (by kernel_rfl) (pureVal_ok rfl) ((List.Sublist.refl _)) rfl rfl rfl ?_
  refine ExD.take (i := 26) rfl (by kernel_rfl) (pureVal_ok rfl) ((List.Sublist.refl _)) rfl rfl rfl ?_
  refine ExD.done (by kernel_rfl) ?_
  refine Ex.seq ?_
  refine Ex.regSeq (ExL.pures 1 rfl ?_)
  refine ExL.eql rfl rfl rfl rfl rfl rfl (fun h4 => ?_) (fun h4 => ?_)
  · refine ExL.nil ?_
    refine Ex.cond_t rfl ?_
    refine Ex.regSeq (ExL.pures 3 rfl ?_)
    refine ExL.free (fr_load rfl rfl rfl rfl (CellO.at 0 (Reads.old hp) rfl)) rfl rfl rfl ?_
    refine ExL.op rfl (op_ret rfl rfl rfl (c_size _ (by assumption) _ _ (by first | assumption | omega | (unfold maxLen; omega))) (Reads.get (Reads.old hd)) rfl rfl (fun x5 hx5 => ?_))
    refine ExL.pures 1 rfl ?_
    refine ExL.nil ?_
    refine Ex.ret ?_
    refine RetQ.mk () rfl (.tmp rfl .nil) (tI (by unfold untilV until1 VDev.v; rw [← hz]; first | rw [if_pos (by assumption)] | rw [if_neg (by assumption)])) [] (rfl) rfl (trivial)
  · refine ExL.nil ?_
    refine Ex.cond_f rfl ?_
    refine Ex.skip ?_
    refine Ex.regSeq (ExL.pures 2 rfl ?_)
    refine ExL.nil ?_
    refine Ex.ret ?_
    refine RetQ.mk () rfl (.tmp rfl .nil) (tI (by unfold untilV until1 VDev.v; rw [← hz]; first | rw [if_pos (by assumption)] | rw [if_neg (by assumption)])) [] (rfl) rfl (trivial)
theorem e_97 : Enters Tryz.prog 97 := Enters.of Tryz.func97 rfl
theorem c_l07Until (d : VDev) (hk : OkDev d) (hv : validDev d = true) (Ad : Option Addr) (cd : Nat) (b : Nat) (back : Bool) : Ret Tryz.prog 97 [.pointer (some ⟨b, 0, none⟩), .bool back] (fun w => Rd w (some ⟨b, 0, none⟩) (encV Ad cd d) ∧ Rd w Ad (d.stack.flatMap (eI .u8))) (fun x : Unit => .int .i64 (if d.preset < 0 then -1 else untilV d (bif back then -1 else 1))) (fun x => []) (fun x => True) := by
  refine Ret.of e_97 Tryz.func97 rfl Tryz.ntmps97 rfl rfl (fun w hpre => ?_)
  have hp := hpre.1.base
  have hd := hpre.2.base
  obtain ⟨hl, hu, ha, hpp, htt⟩ := hk
  have hO := devOk ha hv
  have hvs : validStack d.stack = true := by unfold validDev at hv; rw [decide_eq_true_iff] at hv; exact hv.1
  have hvd := hO.vd
  have hm0 : maxLen = 9223372036854775807 := rfl
  have hz := sizeS hO
  have hle := hO.stk.le
  have hps := hO.stk.pos
  have hlt : 0 ≤ val d.stack d.shows.l ∧ val d.stack d.shows.l < prod d.stack := hO.v_lt
  have hpr := hO.preset
  have htk := hO.tick
  have hs2 := size_two hO.stk
  refine Ex.regSeq (ExL.pures 1 rfl ?_)
  refine ExL.nil ?_
  refine Ex.seq ?_
  refine Ex.regSeq (ExL.pures 3 rfl ?_)
  refine ExL.free (fr_load rfl rfl rfl rfl (CellO.at 9 (Reads.old hp) rfl)) rfl rfl rfl ?_
  refine ExL.lss rfl rfl rfl rfl rfl rfl (fun h1 => ?_) (fun h1 => ?_)
  · refine ExL.nil ?_
    refine Ex.cond_t rfl ?_
    refine Ex.regSeq (ExL.pures 1 rfl ?_)
    refine ExL.nil ?_
    refine Ex.ret ?_
    refine RetQ.mk () rfl (.tmp rfl .nil) (tI (by first | rw [if_pos (by assumption)] | (rw [if_neg (by assumption)]; subst_vars; (first | rw [un_t] | rw [un_f]); first | (rw [until_small (by omega) (by omega) (by omega)]; omega) | rw [until_big (by omega) (by omega) (by omega)]))) [] (rfl) rfl (trivial)
  · refine ExL.nil ?_
    refine Ex.cond_f rfl ?_
    refine Ex.skip ?_
    refine Ex.drawSeqM rfl ?_
    refine ExD.take (i := 0) rfl (by kernel_rfl) (pureVal_ok rfl) ((List.Sublist.refl _)) rfl rfl rfl ?_
    refine ExD.take (i := 1) rfl (by kernel_rfl) (pureVal_ok rfl) ((List.Sublist.refl _)) rfl rfl rfl ?_
    refine ExD.take (i := 2) rfl (by kernel_rfl) (pureVal_ok rfl) ((List.Sublist.refl _)) rfl rfl rfl ?_
    refine ExD.take (i := 3) rfl (by kernel_rfl) (fr_load rfl rfl rfl rfl (CellO.at 9 (Reads.old hp) rfl)) ((List.Sublist.refl _)) rfl rfl rfl ?_
    refine ExD.take (i := 4) rfl (by kernel_rfl) (pureVal_ok rfl) ((List.Sublist.refl _)) rfl rfl rfl ?_
    refine ExD.take (i := 5) rfl (by kernel_rfl) (pureVal_ok rfl) ((List.Sublist.refl _)) rfl rfl rfl ?_
    refine ExD.take (i := 6) rfl (by kernel_rfl) (pureVal_ok rfl) ((List.Sublist.refl _)) rfl rfl rfl ?_
    refine ExD.take (i := 7) rfl (by kernel_rfl) (fr_load rfl rfl rfl rfl (CellO.at 0 (Reads.old hp) rfl)) ((List.Sublist.refl _)) rfl rfl rfl ?_
    refine ExD.take (i := 8) rfl (by kernel_rfl) (pureVal_ok rfl) ((List.Sublist.refl _)) rfl rfl rfl ?_
    refine ExD.take (i := 9) rfl (by kernel_rfl) (pureVal_ok rfl) ((List.Sublist.refl _)) rfl rfl rfl ?_
    refine ExD.take (i := 10) rfl (by kernel_rfl) (pureVal_ok rfl) ((List.Sublist.refl _)) rfl rfl rfl ?_
    refine ExD.take (i := 11) rfl (by kernel_rfl) (fr_loadN rfl rfl rfl rfl rfl (SegO.at 1 8 (Reads.old hp) rfl)) ((List.Sublist.refl _)) rfl rfl rfl ?_
    refine ExD.op (i := 12) rfl (by kernel_rfl) rfl (op_ret rfl rfl rfl (c_l01Value d.stack (by first | assumption | simp_all) _ _ d.shows (by assumption) (by first | assumption | simp_all)) (Reads.get (Reads.old hd)) rfl rfl (fun x2 hx2 => ⟨(List.Sublist.refl _), ?_⟩))
    refine ExD.take (i := 13) rfl (by kernel_rfl) (by first | exact fr_sub64 rfl rfl rfl (by omega) | exact fr_sub rfl rfl rfl) ((List.Sublist.refl _)) rfl rfl rfl ?_
    refine ExD.take (i := 14) rfl (by kernel_rfl) (pureVal_ok rfl) ((List.Sublist.refl _)) rfl rfl rfl ?_
    refine ExD.done (by kernel_rfl) ?_
    refine Ex.seq ?_
    refine Ex.regSeq (ExL.pures 1 rfl ?_)
    refine ExL.nil ?_
    refine Ex.cond rfl (fun hb3 => ?_) (fun hb3 => ?_)
    · refine Ex.region (ExL.pures 1 rfl ?_)
      refine ExL.free (by first | exact fr_neg64 rfl rfl (by omega) | exact fr_neg rfl rfl) rfl rfl rfl ?_
      refine ExL.pures 1 rfl ?_
      refine ExL.nil ?_
      refine Ex.seq ?_
      refine Ex.regSeq (ExL.pures 1 rfl ?_)
      refine ExL.leq rfl rfl rfl rfl rfl rfl (fun h4 => ?_) (fun h4 => ?_)
      · refine ExL.nil ?_
        refine Ex.cond_t rfl ?_
        refine Ex.region (ExL.pures 4 rfl ?_)
        refine ExL.free (fr_load rfl rfl rfl rfl (CellO.at 0 (Reads.old hp) rfl)) rfl rfl rfl ?_
        refine ExL.op rfl (op_ret rfl rfl rfl (c_l01Size _ (by assumption) _ _ (by first | assumption | omega | (unfold maxLen; omega))) (Reads.get (Reads.old hd)) rfl rfl (fun x5 hx5 => ?_))
        refine ExL.free (by first | exact fr_add64 rfl rfl rfl (by omega) | exact fr_add rfl rfl rfl) rfl rfl rfl ?_
        refine ExL.pures 1 rfl ?_
        refine ExL.nil ?_
        refine Ex.regSeq (ExL.pures 2 rfl ?_)
        refine ExL.nil ?_
        refine Ex.ret ?_
        refine RetQ.mk () rfl (.tmp rfl .nil) (tI (by first | rw [if_pos (by assumption)] | (rw [if_neg (by assumption)]; subst_vars; (first | rw [un_t] | rw [un_f]); first | (rw [until_small (by omega) (by omega) (by omega)]; omega) | rw [until_big (by omega) (by omega) (by omega)]))) [] (rfl) rfl (trivial)
      · refine ExL.nil ?_
        refine Ex.cond_f rfl ?_
        refine Ex.skip ?_
        refine Ex.regSeq (ExL.pures 2 rfl ?_)
        refine ExL.nil ?_
        refine Ex.ret ?_
        refine RetQ.mk () rfl (.tmp rfl .nil) (tI (by first | rw [if_pos (by assumption)] | (rw [if_neg (by assumption)]; subst_vars; (first | rw [un_t] | rw [un_f]); first | (rw [until_small (by omega) (by omega) (by omega)]; omega) | rw [until_big (by omega) (by omega) (by omega)]))) [] (rfl) rfl (trivial)
    · refine Ex.skip ?_
      refine Ex.seq ?_
      refine Ex.regSeq (ExL.pures 1 rfl ?_)
      refine ExL.leq rfl rfl rfl rfl rfl rfl (fun h6 => ?_) (fun h6 => ?_)
      · refine ExL.nil ?_
        refine Ex.cond_t rfl ?_
        refine Ex.region (ExL.pures 4 rfl ?_)
        refine ExL.free (fr_load rfl rfl rfl rfl (CellO.at 0 (Reads.old hp) rfl)) rfl rfl rfl ?_
        refine ExL.op rfl (op_ret rfl rfl rfl (c_l01Size _ (by assumption) _ _ (by first | assumption | omega | (unfold maxLen; omega))) (Reads.get (Reads.old hd)) rfl rfl (fun x7 hx7 => ?_))
        refine ExL.free (by first | exact fr_add64 rfl rfl rfl (by omega) | exact fr_add rfl rfl rfl) rfl rfl rfl ?_
        refine ExL.pures 1 rfl ?_
        refine ExL.nil ?_
        refine Ex.regSeq (ExL.pures 2 rfl ?_)
        refine ExL.nil ?_
        refine Ex.ret ?_
        refine RetQ.mk () rfl (.tmp rfl .nil) (tI (by first | rw [if_pos (by assumption)] | (rw [if_neg (by assumption)]; subst_vars; (first | rw [un_t] | rw [un_f]); first | (rw [until_small (by omega) (by omega) (by omega)]; omega) | rw [until_big (by omega) (by omega) (by omega)]))) [] (rfl) rfl (trivial)
      · refine ExL.nil ?_
        refine Ex.cond_f rfl ?_
        refine Ex.skip ?_
        refine Ex.regSeq (ExL.pures 2 rfl ?_)
        refine ExL.nil ?_
        refine Ex.ret ?_
        refine RetQ.mk () rfl (.tmp rfl .nil) (tI (by first | rw [if_pos (by assumption)] | (rw [if_neg (by assumption)]; subst_vars; (first | rw [un_t] | rw [un_f]); first | (rw [until_small (by omega) (by omega) (by omega)]; omega) | rw [until_big (by omega) (by omega) (by omega)]))) [] (rfl) rfl (trivial)
theorem c_lu_f (d : VDev) (hk : OkDev d) (hv : validDev d = true) (Ad : Option Addr) (cd : Nat) (b : Nat) : Ret Tryz.prog 97 [.pointer (some ⟨b, 0, none⟩), .bool false] (fun w => Rd w (some ⟨b, 0, none⟩) (encV Ad cd d) ∧ Rd w Ad (d.stack.flatMap (eI .u8))) (fun x : Unit => .int .i64 (untilW d (1))) (fun x => []) (fun x => True) := c_l07Until d hk hv Ad cd b false
theorem c_lu_t (d : VDev) (hk : OkDev d) (hv : validDev d = true) (Ad : Option Addr) (cd : Nat) (b : Nat) : Ret Tryz.prog 97 [.pointer (some ⟨b, 0, none⟩), .bool true] (fun w => Rd w (some ⟨b, 0, none⟩) (encV Ad cd d) ∧ Rd w Ad (d.stack.flatMap (eI .u8))) (fun x : Unit => .int .i64 (untilW d (-1))) (fun x => []) (fun x => True) := c_l07Until d hk hv Ad cd b true
theorem e_92 : Enters Tryz.prog 92 := Enters.of Tryz.func92 rfl
theorem c_pulse (d : VDev) (hk : OkDev d) (hv : validDev d = true) (Ad : Option Addr) (cd : Nat) (b : Nat) (n st : Int) (hn : 0 ≤ n ∧ n ≤ 1000000000000) (hst : st = 1 ∨ st = -1) : Mut Tryz.prog 92 [.pointer (some ⟨b, 0, none⟩), .int .i64 n, .int .i64 st] [.blk b (encV Ad cd d) 28, .row (.slice Ad d.stack.length cd) 5 1 d.stack.length (d.stack.flatMap (eI .u8))] (fun base w0 F => True) (fun x : Unit => .int .i64 (pulseV d n st).2) (fun x => [.blk b (encV Ad cd (pulseV d n st).1) 28, .row (.slice Ad d.stack.length cd) 5 1 d.stack.length (d.stack.flatMap (eI .u8))]) (fun x => True) := by
  refine Mut.of e_92 Tryz.func92 rfl Tryz.ntmps92 rfl rfl (fun base w0 F hfr => ?_)
  have hkk := hk
  obtain ⟨hl, hu, ha, hpp, htt⟩ := hk
  have hO := devOk ha hv
  have hvs : validStack d.stack = true := by unfold validDev at hv; rw [decide_eq_true_iff] at hv; exact hv.1
  have hvd := hO.vd
  have hm0 : maxLen = 9223372036854775807 := rfl
  have hz := sizeS hO
  have hle := hO.stk.le
  have hps := hO.stk.pos
  have hlt : 0 ≤ val d.stack d.shows.l ∧ val d.stack d.shows.l < prod d.stack := hO.v_lt
  have hpr := hO.preset
  have htk := hO.tick
  have hub := until_bd hO st
  have hst1 : st * (n - (n - untilV d st)) = st * untilV d st := by rw [show n - (n - untilV d st) = untilV d st by omega]
  have hst2 : st * (n - 0) = st * n := by rw [Int.sub_zero]
  have hst3 : -1000000000000 ≤ st * untilV d st ∧ st * untilV d st ≤ 1000000000000 := by rcases hst with rfl | rfl <;> omega
  have hst4 : -1000000000000 ≤ st * n ∧ st * n ≤ 1000000000000 := by rcases hst with rfl | rfl <;> omega
  refine Ex.regSeq (ExL.pures 1 rfl ?_)
  refine ExL.nil ?_
  refine Ex.regSeq (ExL.pures 1 rfl ?_)
  refine ExL.nil ?_
  refine Ex.seq ?_
  refine Ex.block ?_
  refine Ex.regSeq (ExL.pures 3 rfl ?_)
  refine ExL.free (fr_load rfl rfl rfl rfl (CellO.blk (i := 0) rfl rfl)) rfl rfl rfl ?_
  refine ExL.pures 1 rfl ?_
  refine ExL.nil ?_
  refine Ex.cond rfl (fun hb1 => ?_) (fun hb1 => ?_)
  · refine Ex.regSeq (ExL.pures 2 rfl ?_)
    refine ExL.nil ?_
    refine Ex.ret ?_
    refine MutQ.mk () rfl (.tmp rfl .nil) (tI (by first | (rw [pv_stop (by assumption)]; first | done | rfl) | (rw [pv_hit (by assumption) ⟨by omega, by omega⟩]; first | done | rfl) | (rw [pv_on (by assumption) (by omega)]; first | done | rfl))) 2 [0, 1] (by first | (rw [pv_stop (by assumption)]; first | done | rfl) | (rw [pv_hit (by assumption) ⟨by omega, by omega⟩, ← hst1]; first | done | rfl) | (rw [pv_on (by assumption) (by omega), ← hst2]; first | done | rfl)) rfl (trivial)
  · refine Ex.regSeq (ExL.pures 3 rfl ?_)
    refine ExL.free (fr_load rfl rfl rfl rfl (CellO.blk (i := 0) rfl rfl)) rfl rfl rfl ?_
    refine ExL.neq rfl rfl rfl rfl rfl rfl (fun h2 => ?_) (fun h2 => ?_)
    · refine ExL.pures 4 rfl ?_
      refine ExL.op rfl (op_ret rfl rfl rfl (c_until d (by first | assumption | exact ⟨by assumption, by assumption, by assumption, by assumption, by assumption⟩) (by assumption) _ _ _ (st) (by first | assumption | decide | omega)) (fun w hw => ⟨Reads.get (Reads.blk (i := 0) rfl) w hw, Reads.get (Reads.row (i := 1) rfl) w hw⟩) rfl rfl (fun x3 hx3 => ?_))
      refine ExL.geq rfl rfl rfl rfl rfl rfl (fun h4 => ?_) (fun h4 => ?_)
      · refine ExL.pures 2 rfl ?_
        refine ExL.nil ?_
        refine Ex.cond_t rfl ?_
        refine Ex.regSeq (ExL.pures 3 rfl ?_)
        refine ExL.op rfl (op_ret rfl rfl rfl (c_until d (by first | assumption | exact ⟨by assumption, by assumption, by assumption, by assumption, by assumption⟩) (by assumption) _ _ _ (st) (by first | assumption | decide | omega)) (fun w hw => ⟨Reads.get (Reads.blk (i := 0) rfl) w hw, Reads.get (Reads.row (i := 1) rfl) w hw⟩) rfl rfl (fun x5 hx5 => ?_))
        refine ExL.free (by first | exact fr_sub64 rfl rfl rfl (by omega) | exact fr_sub rfl rfl rfl) rfl rfl rfl ?_
        refine ExL.pures 1 rfl ?_
        refine ExL.nil ?_
        refine Ex.region (ExL.pures 3 rfl ?_)
        refine ExL.op rfl (op_storeC (i := 0) rfl rfl rfl rfl rfl rfl rfl rfl rfl rfl ?_)
        refine ExL.nil ?_
        refine Ex.drawSeqI [1] rfl rfl ?_
        refine ExD.take (i := 0) rfl (by kernel_rfl) (pureVal_ok rfl) ((List.Sublist.cons _ (List.Sublist.cons_cons _ (List.nil_sublist _)))) rfl rfl rfl ?_
        refine ExD.take (i := 1) rfl (by kernel_rfl) (pureVal_ok rfl) ((List.Sublist.cons _ (List.Sublist.cons_cons _ (List.nil_sublist _)))) rfl rfl rfl ?_
        refine ExD.take (i := 2) rfl (by kernel_rfl) (pureVal_ok rfl) ((List.Sublist.cons _ (List.Sublist.cons_cons _ (List.nil_sublist _)))) rfl rfl rfl ?_
        refine ExD.take (i := 3) rfl (by kernel_rfl) (pureVal_ok rfl) ((List.Sublist.cons _ (List.Sublist.cons_cons _ (List.nil_sublist _)))) rfl rfl rfl ?_
        refine ExD.take (i := 5) rfl (by kernel_rfl) (pureVal_ok rfl) ((List.Sublist.cons _ (List.Sublist.cons_cons _ (List.nil_sublist _)))) rfl rfl rfl ?_
        refine ExD.take (i := 6) rfl (by kernel_rfl) (pureVal_ok rfl) ((List.Sublist.cons _ (List.Sublist.cons_cons _ (List.nil_sublist _)))) rfl rfl rfl ?_
        refine ExD.take (i := 7) rfl (by kernel_rfl) (pureVal_ok rfl) ((List.Sublist.cons _ (List.Sublist.cons_cons _ (List.nil_sublist _)))) rfl rfl rfl ?_
        refine ExD.take (i := 9) rfl (by kernel_rfl) (pureVal_ok rfl) ((List.Sublist.cons _ (List.Sublist.cons_cons _ (List.nil_sublist _)))) rfl rfl rfl ?_
        refine ExD.take (i := 10) rfl (by kernel_rfl) (pureVal_ok rfl) ((List.Sublist.cons _ (List.Sublist.cons_cons _ (List.nil_sublist _)))) rfl rfl rfl ?_
        refine ExD.take (i := 11) rfl (by kernel_rfl) (pureVal_ok rfl) ((List.Sublist.cons _ (List.Sublist.cons_cons _ (List.nil_sublist _)))) rfl rfl rfl ?_
        refine ExD.take (i := 12) rfl (by kernel_rfl) (by first | exact fr_sub64 rfl rfl rfl (by omega) | exact fr_sub rfl rfl rfl) ((List.Sublist.cons _ (List.Sublist.cons_cons _ (List.nil_sublist _)))) rfl rfl rfl ?_
        refine ExD.take (i := 13) rfl (by kernel_rfl) (by first | exact fr_mul64 rfl rfl rfl (by omega) | exact fr_mul rfl rfl rfl) ((List.Sublist.cons _ (List.Sublist.cons_cons _ (List.nil_sublist _)))) rfl rfl rfl ?_
        refine ExD.two (i := 4) (j := 8) rfl rfl (by kernel_rfl) (by kernel_rfl) (by kernel_rfl) rfl (List.Sublist.cons _ (List.Sublist.cons_cons _ (List.nil_sublist _))) rfl rfl rfl rfl rfl rfl rfl rfl rfl (fr_load rfl rfl rfl rfl (CellO.blk (i := 0) rfl rfl)) (fr_loadN rfl rfl rfl rfl rfl (SegO.part (i := 0) 8 rfl)) (fr_load rfl rfl rfl rfl (CellO.blk (i := 0) rfl rfl)) (fr_loadN rfl rfl rfl rfl rfl (SegO.part (i := 0) 8 rfl)) ?_
        refine ExD.op (i := 14) rfl (by kernel_rfl) rfl (op_ret rfl rfl rfl (c_added d.stack (by first | assumption | simp_all) _ _ d.shows (by assumption) (by first | assumption | simp_all) (by assumption) _ (by omega)) (Reads.get (Reads.row (i := 1) rfl)) rfl rfl (fun x6 hx6 => ⟨(List.Sublist.cons _ (List.Sublist.cons_cons _ (List.nil_sublist _))), ?_⟩))
        refine ExD.take (i := 15) rfl (by kernel_rfl) (pureVal_ok rfl) ((List.Sublist.cons _ (List.Sublist.cons_cons _ (List.nil_sublist _)))) rfl rfl rfl ?_
        refine ExD.take (i := 16) rfl (by kernel_rfl) (pureVal_ok rfl) ((List.Sublist.cons _ (List.Sublist.cons_cons _ (List.nil_sublist _)))) rfl rfl rfl ?_
        refine ExD.take (i := 17) rfl (by kernel_rfl) (pureVal_ok rfl) ((List.Sublist.cons _ (List.Sublist.cons_cons _ (List.nil_sublist _)))) rfl rfl rfl ?_
        refine ExD.take (i := 18) rfl (by kernel_rfl) (pureVal_ok rfl) ((List.Sublist.cons _ (List.Sublist.cons_cons _ (List.nil_sublist _)))) rfl rfl rfl ?_
        refine ExD.take (i := 19) rfl (by kernel_rfl) (pureVal_ok rfl) ((List.Sublist.cons _ (List.Sublist.cons_cons _ (List.nil_sublist _)))) rfl rfl rfl ?_
        refine ExD.op (i := 20) rfl (by kernel_rfl) rfl (op_storeC (i := 0) rfl rfl rfl rfl rfl rfl rfl rfl rfl rfl ⟨(List.Sublist.cons _ (List.Sublist.cons_cons _ (List.nil_sublist _))), ?_⟩)
        refine ExD.done (by kernel_rfl) ?_
        refine Ex.regSeq (ExL.pures 2 rfl ?_)
        refine ExL.nil ?_
        refine Ex.ret ?_
        refine MutQ.mk () rfl (.tmp rfl .nil) (tI (by first | (rw [pv_stop (by assumption)]; first | done | rfl) | (rw [pv_hit (by assumption) ⟨by omega, by omega⟩]; first | done | rfl) | (rw [pv_on (by assumption) (by omega)]; first | done | rfl))) 2 [0, 1] (by first | (rw [pv_stop (by assumption)]; first | done | rfl) | (rw [pv_hit (by assumption) ⟨by omega, by omega⟩, ← hst1]; first | done | rfl) | (rw [pv_on (by assumption) (by omega), ← hst2]; first | done | rfl)) rfl (trivial)
      · refine ExL.pures 2 rfl ?_
        refine ExL.nil ?_
        refine Ex.cond_f rfl ?_
        refine Ex.skip ?_
        refine Ex.drawSeqI [1] rfl rfl ?_
        refine ExD.take (i := 0) rfl (by kernel_rfl) (pureVal_ok rfl) ((List.Sublist.cons _ (List.Sublist.cons_cons _ (List.nil_sublist _)))) rfl rfl rfl ?_
        refine ExD.take (i := 1) rfl (by kernel_rfl) (pureVal_ok rfl) ((List.Sublist.cons _ (List.Sublist.cons_cons _ (List.nil_sublist _)))) rfl rfl rfl ?_
        refine ExD.take (i := 2) rfl (by kernel_rfl) (pureVal_ok rfl) ((List.Sublist.cons _ (List.Sublist.cons_cons _ (List.nil_sublist _)))) rfl rfl rfl ?_
        refine ExD.take (i := 3) rfl (by kernel_rfl) (pureVal_ok rfl) ((List.Sublist.cons _ (List.Sublist.cons_cons _ (List.nil_sublist _)))) rfl rfl rfl ?_
        refine ExD.take (i := 5) rfl (by kernel_rfl) (pureVal_ok rfl) ((List.Sublist.cons _ (List.Sublist.cons_cons _ (List.nil_sublist _)))) rfl rfl rfl ?_
        refine ExD.take (i := 6) rfl (by kernel_rfl) (pureVal_ok rfl) ((List.Sublist.cons _ (List.Sublist.cons_cons _ (List.nil_sublist _)))) rfl rfl rfl ?_
        refine ExD.take (i := 7) rfl (by kernel_rfl) (pureVal_ok rfl) ((List.Sublist.cons _ (List.Sublist.cons_cons _ (List.nil_sublist _)))) rfl rfl rfl ?_
        refine ExD.take (i := 9) rfl (by kernel_rfl) (pureVal_ok rfl) ((List.Sublist.cons _ (List.Sublist.cons_cons _ (List.nil_sublist _)))) rfl rfl rfl ?_
        refine ExD.take (i := 10) rfl (by kernel_rfl) (pureVal_ok rfl) ((List.Sublist.cons _ (List.Sublist.cons_cons _ (List.nil_sublist _)))) rfl rfl rfl ?_
        refine ExD.take (i := 11) rfl (by kernel_rfl) (pureVal_ok rfl) ((List.Sublist.cons _ (List.Sublist.cons_cons _ (List.nil_sublist _)))) rfl rfl rfl ?_
        refine ExD.take (i := 12) rfl (by kernel_rfl) (by first | exact fr_sub64 rfl rfl rfl (by omega) | exact fr_sub rfl rfl rfl) ((List.Sublist.cons _ (List.Sublist.cons_cons _ (List.nil_sublist _)))) rfl rfl rfl ?_
        refine ExD.take (i := 13) rfl (by kernel_rfl) (by first | exact fr_mul64 rfl rfl rfl (by omega) | exact fr_mul rfl rfl rfl) ((List.Sublist.cons _ (List.Sublist.cons_cons _ (List.nil_sublist _)))) rfl rfl rfl ?_
        refine ExD.two (i := 4) (j := 8) rfl rfl (by kernel_rfl) (by kernel_rfl) (by kernel_rfl) rfl (List.Sublist.cons _ (List.Sublist.cons_cons _ (List.nil_sublist _))) rfl rfl rfl rfl rfl rfl rfl rfl rfl (fr_load rfl rfl rfl rfl (CellO.blk (i := 0) rfl rfl)) (fr_loadN rfl rfl rfl rfl rfl (SegO.part (i := 0) 8 rfl)) (fr_load rfl rfl rfl rfl (CellO.blk (i := 0) rfl rfl)) (fr_loadN rfl rfl rfl rfl rfl (SegO.part (i := 0) 8 rfl)) ?_
        refine ExD.op (i := 14) rfl (by kernel_rfl) rfl (op_ret rfl rfl rfl (c_added d.stack (by first | assumption | simp_all) _ _ d.shows (by assumption) (by first | assumption | simp_all) (by assumption) _ (by omega)) (Reads.get (Reads.row (i := 1) rfl)) rfl rfl (fun x7 hx7 => ⟨(List.Sublist.cons _ (List.Sublist.cons_cons _ (List.nil_sublist _))), ?_⟩))
        refine ExD.take (i := 15) rfl (by kernel_rfl) (pureVal_ok rfl) ((List.Sublist.cons _ (List.Sublist.cons_cons _ (List.nil_sublist _)))) rfl rfl rfl ?_
        refine ExD.take (i := 16) rfl (by kernel_rfl) (pureVal_ok rfl) ((List.Sublist.cons _ (List.Sublist.cons_cons _ (List.nil_sublist _)))) rfl rfl rfl ?_
        refine ExD.take (i := 17) rfl (by kernel_rfl) (pureVal_ok rfl) ((List.Sublist.cons _ (List.Sublist.cons_cons _ (List.nil_sublist _)))) rfl rfl rfl ?_
        refine ExD.take (i := 18) rfl (by kernel_rfl) (pureVal_ok rfl) ((List.Sublist.cons _ (List.Sublist.cons_cons _ (List.nil_sublist _)))) rfl rfl rfl ?_
        refine ExD.take (i := 19) rfl (by kernel_rfl) (pureVal_ok rfl) ((List.Sublist.cons _ (List.Sublist.cons_cons _ (List.nil_sublist _)))) rfl rfl rfl ?_
        refine ExD.op (i := 20) rfl (by kernel_rfl) rfl (op_storeC (i := 0) rfl rfl rfl rfl rfl rfl rfl rfl rfl rfl ⟨(List.Sublist.cons _ (List.Sublist.cons_cons _ (List.nil_sublist _))), ?_⟩)
        refine ExD.done (by kernel_rfl) ?_
        refine Ex.regSeq (ExL.pures 2 rfl ?_)
        refine ExL.nil ?_
        refine Ex.ret ?_
        refine MutQ.mk () rfl (.tmp rfl .nil) (tI (by first | (rw [pv_stop (by assumption)]; first | done | rfl) | (rw [pv_hit (by assumption) ⟨by omega, by omega⟩]; first | done | rfl) | (rw [pv_on (by assumption) (by omega)]; first | done | rfl))) 2 [0, 1] (by first | (rw [pv_stop (by assumption)]; first | done | rfl) | (rw [pv_hit (by assumption) ⟨by omega, by omega⟩, ← hst1]; first | done | rfl) | (rw [pv_on (by assumption) (by omega), ← hst2]; first | done | rfl)) rfl (trivial)
    · refine ExL.pures 8 rfl ?_
      refine ExL.nil ?_
      refine Ex.cond_f rfl ?_
      refine Ex.skip ?_
      refine Ex.drawSeqI [1] rfl rfl ?_
      refine ExD.take (i := 0) rfl (by kernel_rfl) (pureVal_ok rfl) ((List.Sublist.cons _ (List.Sublist.cons_cons _ (List.nil_sublist _)))) rfl rfl rfl ?_
      refine ExD.take (i := 1) rfl (by kernel_rfl) (pureVal_ok rfl) ((List.Sublist.cons _ (List.Sublist.cons_cons _ (List.nil_sublist _)))) rfl rfl rfl ?_
      refine ExD.take (i := 2) rfl (by kernel_rfl) (pureVal_ok rfl) ((List.Sublist.cons _ (List.Sublist.cons_cons _ (List.nil_sublist _)))) rfl rfl rfl ?_
      refine ExD.take (i := 3) rfl (by kernel_rfl) (pureVal_ok rfl) ((List.Sublist.cons _ (List.Sublist.cons_cons _ (List.nil_sublist _)))) rfl rfl rfl ?_
      refine ExD.take (i := 5) rfl (by kernel_rfl) (pureVal_ok rfl) ((List.Sublist.cons _ (List.Sublist.cons_cons _ (List.nil_sublist _)))) rfl rfl rfl ?_
      refine ExD.take (i := 6) rfl (by kernel_rfl) (pureVal_ok rfl) ((List.Sublist.cons _ (List.Sublist.cons_cons _ (List.nil_sublist _)))) rfl rfl rfl ?_
      refine ExD.take (i := 7) rfl (by kernel_rfl) (pureVal_ok rfl) ((List.Sublist.cons _ (List.Sublist.cons_cons _ (List.nil_sublist _)))) rfl rfl rfl ?_
      refine ExD.take (i := 9) rfl (by kernel_rfl) (pureVal_ok rfl) ((List.Sublist.cons _ (List.Sublist.cons_cons _ (List.nil_sublist _)))) rfl rfl rfl ?_
      refine ExD.take (i := 10) rfl (by kernel_rfl) (pureVal_ok rfl) ((List.Sublist.cons _ (List.Sublist.cons_cons _ (List.nil_sublist _)))) rfl rfl rfl ?_
      refine ExD.take (i := 11) rfl (by kernel_rfl) (pureVal_ok rfl) ((List.Sublist.cons _ (List.Sublist.cons_cons _ (List.nil_sublist _)))) rfl rfl rfl ?_
      refine ExD.take (i := 12) rfl (by kernel_rfl) (by first | exact fr_sub64 rfl rfl rfl (by omega) | exact fr_sub rfl rfl rfl) ((List.Sublist.cons _ (List.Sublist.cons_cons _ (List.nil_sublist _)))) rfl rfl rfl ?_
      refine ExD.take (i := 13) rfl (by kernel_rfl) (by first | exact fr_mul64 rfl rfl rfl (by omega) | exact fr_mul rfl rfl rfl) ((List.Sublist.cons _ (List.Sublist.cons_cons _ (List.nil_sublist _)))) rfl rfl rfl ?_
      refine ExD.two (i := 4) (j := 8) rfl rfl (by kernel_rfl) (by kernel_rfl) (by kernel_rfl) rfl (List.Sublist.cons _ (List.Sublist.cons_cons _ (List.nil_sublist _))) rfl rfl rfl rfl rfl rfl rfl rfl rfl (fr_load rfl rfl rfl rfl (CellO.blk (i := 0) rfl rfl)) (fr_loadN rfl rfl rfl rfl rfl (SegO.part (i := 0) 8 rfl)) (fr_load rfl rfl rfl rfl (CellO.blk (i := 0) rfl rfl)) (fr_loadN rfl rfl rfl rfl rfl (SegO.part (i := 0) 8 rfl)) ?_
      refine ExD.op (i := 14) rfl (by kernel_rfl) rfl (op_ret rfl rfl rfl (c_added d.stack (by first | assumption | simp_all) _ _ d.shows (by assumption) (by first | assumption | simp_all) (by assumption) _ (by omega)) (Reads.get (Reads.row (i := 1) rfl)) rfl rfl (fun x8 hx8 => ⟨(List.Sublist.cons _ (List.Sublist.cons_cons _ (List.nil_sublist _))), ?_⟩))
      refine ExD.take (i := 15) rfl (by kernel_rfl) (pureVal_ok rfl) ((List.Sublist.cons _ (List.Sublist.cons_cons _ (List.nil_sublist _)))) rfl rfl rfl ?_
      refine ExD.take (i := 16) rfl (by kernel_rfl) (pureVal_ok rfl) ((List.Sublist.cons _ (List.Sublist.cons_cons _ (List.nil_sublist _)))) rfl rfl rfl ?_
      refine ExD.take (i := 17) rfl (by kernel_rfl) (pureVal_ok rfl) ((List.Sublist.cons _ (List.Sublist.cons_cons _ (List.nil_sublist _)))) rfl rfl rfl ?_
      refine ExD.take (i := 18) rfl (by kernel_rfl) (pureVal_ok rfl) ((List.Sublist.cons _ (List.Sublist.cons_cons _ (List.nil_sublist _)))) rfl rfl rfl ?_
      refine ExD.take (i := 19) rfl (by kernel_rfl) (pureVal_ok rfl) ((List.Sublist.cons _ (List.Sublist.cons_cons _ (List.nil_sublist _)))) rfl rfl rfl ?_
      refine ExD.op (i := 20) rfl (by kernel_rfl) rfl (op_storeC (i := 0) rfl rfl rfl rfl rfl rfl rfl rfl rfl rfl ⟨(List.Sublist.cons _ (List.Sublist.cons_cons _ (List.nil_sublist _))), ?_⟩)
      refine ExD.done (by kernel_rfl) ?_
      refine Ex.regSeq (ExL.pures 2 rfl ?_)
      refine ExL.nil ?_
      refine Ex.ret ?_
      refine MutQ.mk () rfl (.tmp rfl .nil) (tI (by first | (rw [pv_stop (by assumption)]; first | done | rfl) | (rw [pv_hit (by assumption) ⟨by omega, by omega⟩]; first | done | rfl) | (rw [pv_on (by assumption) (by omega)]; first | done | rfl))) 2 [0, 1] (by first | (rw [pv_stop (by assumption)]; first | done | rfl) | (rw [pv_hit (by assumption) ⟨by omega, by omega⟩, ← hst1]; first | done | rfl) | (rw [pv_on (by assumption) (by omega), ← hst2]; first | done | rfl)) rfl (trivial)
theorem e_77 : Enters Tryz.prog 77 := Enters.of Tryz.func77 rfl
theorem c_l07Count_f (d : VDev) (hk : OkDev d) (hv : validDev d = true) (Ad : Option Addr) (cd : Nat) (b : Nat) (n : Int) (hn : 0 ≤ n ∧ n ≤ 1000000000000) : Mut Tryz.prog 77 [.pointer (some ⟨b, 0, none⟩), .int .i64 n, .bool false] [.blk b (encV Ad cd d) 28, .row (.slice Ad d.stack.length cd) 5 1 d.stack.length (d.stack.flatMap (eI .u8))] (fun base w0 F => True) (fun x : Unit => .int .i64 (pulseV d n (1)).2) (fun x => [.blk b (encV Ad cd (pulseV d n (1)).1) 28, .row (.slice Ad d.stack.length cd) 5 1 d.stack.length (d.stack.flatMap (eI .u8))]) (fun x => True) := by
  refine Mut.of e_77 Tryz.func77 rfl Tryz.ntmps77 rfl rfl (fun base w0 F hfr => ?_)
  have hkk := hk
  obtain ⟨hl, hu, ha, hpp, htt⟩ := hk
  have hO := devOk ha hv
  have hvs : validStack d.stack = true := by unfold validDev at hv; rw [decide_eq_true_iff] at hv; exact hv.1
  have hvd := hO.vd
  have hm0 : maxLen = 9223372036854775807 := rfl
  have hz := sizeS hO
  have hle := hO.stk.le
  have hps := hO.stk.pos
  have hlt : 0 ≤ val d.stack d.shows.l ∧ val d.stack d.shows.l < prod d.stack := hO.v_lt
  have hpr := hO.preset
  have htk := hO.tick
  have hub := until_bd hO (1)
  have huw := uw (d := d) (st := 1)
  refine Ex.regSeq (ExL.pures 1 rfl ?_)
  refine ExL.nil ?_
  refine Ex.seq ?_
  refine Ex.regSeq (ExL.pures 3 rfl ?_)
  refine ExL.free (fr_load rfl rfl rfl rfl (CellO.blk (i := 0) rfl rfl)) rfl rfl rfl ?_
  refine ExL.nil ?_
  refine Ex.cond rfl (fun hb1 => ?_) (fun hb1 => ?_)
  · refine Ex.regSeq (ExL.pures 2 rfl ?_)
    refine ExL.nil ?_
    refine Ex.ret ?_
    refine MutQ.mk () rfl (.tmp rfl .nil) (tI (by first | (rw [pv_stop (by assumption)]; first | done | rfl) | (rw [uw_pos (d := d) (st := 1) (by omega), pv_hit (by assumption) ⟨by omega, by omega⟩]; first | done | rfl) | (rw [pv_on (by assumption) (by omega)]; first | done | rfl))) 2 [0, 1] (by first | (rw [pv_stop (by assumption)]; first | done | rfl) | (rw [uw_pos (d := d) (st := 1) (by omega), pv_hit (by assumption) ⟨by omega, by omega⟩, Int.one_mul]; first | done | rfl) | (rw [pv_on (by assumption) (by omega), Int.one_mul]; first | done | rfl)) rfl (trivial)
  · refine Ex.skip ?_
    refine Ex.regSeq (ExL.pures 2 rfl ?_)
    refine ExL.op rfl (op_ret rfl rfl rfl (c_lu_f d (by first | assumption | exact ⟨by assumption, by assumption, by assumption, by assumption, by assumption⟩) (by assumption) _ _ _) (fun w hw => ⟨Reads.get (Reads.blk (i := 0) rfl) w hw, Reads.get (Reads.row (i := 1) rfl) w hw⟩) rfl rfl (fun x2 hx2 => ?_))
    refine ExL.pures 1 rfl ?_
    refine ExL.nil ?_
    refine Ex.regSeq (ExL.pures 1 rfl ?_)
    refine ExL.nil ?_
    refine Ex.seq ?_
    refine Ex.regSeq (ExL.pures 1 rfl ?_)
    refine ExL.geq rfl rfl rfl rfl rfl rfl (fun h3 => ?_) (fun h3 => ?_)
    · refine ExL.pures 3 rfl ?_
      refine ExL.geq rfl rfl rfl rfl rfl rfl (fun h4 => ?_) (fun h4 => ?_)
      · refine ExL.pures 1 rfl ?_
        refine ExL.nil ?_
        refine Ex.cond_t rfl ?_
        refine Ex.regSeq (ExL.pures 2 rfl ?_)
        refine ExL.free (by first | exact fr_sub64 rfl rfl rfl (by omega) | exact fr_sub rfl rfl rfl) rfl rfl rfl ?_
        refine ExL.pures 1 rfl ?_
        refine ExL.nil ?_
        refine Ex.regSeq (ExL.pures 2 rfl ?_)
        refine ExL.nil ?_
        refine Ex.region (ExL.pures 3 rfl ?_)
        refine ExL.op rfl (op_storeC (i := 0) rfl rfl rfl rfl rfl rfl rfl rfl rfl rfl ?_)
        refine ExL.nil ?_
        refine Ex.seq ?_
        refine Ex.regSeq (ExL.pures 1 rfl ?_)
        refine ExL.nil ?_
        refine Ex.cond_f rfl ?_
        refine Ex.skip ?_
        refine Ex.drawSeqI [1] rfl rfl ?_
        refine ExD.take (i := 0) rfl (by kernel_rfl) (pureVal_ok rfl) ((List.Sublist.cons _ (List.Sublist.cons_cons _ (List.nil_sublist _)))) rfl rfl rfl ?_
        refine ExD.take (i := 1) rfl (by kernel_rfl) (pureVal_ok rfl) ((List.Sublist.cons _ (List.Sublist.cons_cons _ (List.nil_sublist _)))) rfl rfl rfl ?_
        refine ExD.take (i := 2) rfl (by kernel_rfl) (pureVal_ok rfl) ((List.Sublist.cons _ (List.Sublist.cons_cons _ (List.nil_sublist _)))) rfl rfl rfl ?_
        refine ExD.take (i := 3) rfl (by kernel_rfl) (pureVal_ok rfl) ((List.Sublist.cons _ (List.Sublist.cons_cons _ (List.nil_sublist _)))) rfl rfl rfl ?_
        refine ExD.take (i := 5) rfl (by kernel_rfl) (pureVal_ok rfl) ((List.Sublist.cons _ (List.Sublist.cons_cons _ (List.nil_sublist _)))) rfl rfl rfl ?_
        refine ExD.take (i := 6) rfl (by kernel_rfl) (pureVal_ok rfl) ((List.Sublist.cons _ (List.Sublist.cons_cons _ (List.nil_sublist _)))) rfl rfl rfl ?_
        refine ExD.take (i := 7) rfl (by kernel_rfl) (pureVal_ok rfl) ((List.Sublist.cons _ (List.Sublist.cons_cons _ (List.nil_sublist _)))) rfl rfl rfl ?_
        refine ExD.take (i := 9) rfl (by kernel_rfl) (pureVal_ok rfl) ((List.Sublist.cons _ (List.Sublist.cons_cons _ (List.nil_sublist _)))) rfl rfl rfl ?_
        refine ExD.two (i := 4) (j := 8) rfl rfl (by kernel_rfl) (by kernel_rfl) (by kernel_rfl) rfl (List.Sublist.cons _ (List.Sublist.cons_cons _ (List.nil_sublist _))) rfl rfl rfl rfl rfl rfl rfl rfl rfl (fr_load rfl rfl rfl rfl (CellO.blk (i := 0) rfl rfl)) (fr_loadN rfl rfl rfl rfl rfl (SegO.part (i := 0) 8 rfl)) (fr_load rfl rfl rfl rfl (CellO.blk (i := 0) rfl rfl)) (fr_loadN rfl rfl rfl rfl rfl (SegO.part (i := 0) 8 rfl)) ?_
        refine ExD.op (i := 10) rfl (by kernel_rfl) rfl (op_ret rfl rfl rfl (c_l01Add d.stack (by first | assumption | simp_all) _ _ d.shows (by assumption) (by first | assumption | simp_all) (by assumption) _ (by omega)) (Reads.get (Reads.row (i := 1) rfl)) rfl rfl (fun x5 hx5 => ⟨(List.Sublist.cons _ (List.Sublist.cons_cons _ (List.nil_sublist _))), ?_⟩))
        refine ExD.take (i := 11) rfl (by kernel_rfl) (pureVal_ok rfl) ((List.Sublist.cons _ (List.Sublist.cons_cons _ (List.nil_sublist _)))) rfl rfl rfl ?_
        refine ExD.take (i := 12) rfl (by kernel_rfl) (pureVal_ok rfl) ((List.Sublist.cons _ (List.Sublist.cons_cons _ (List.nil_sublist _)))) rfl rfl rfl ?_
        refine ExD.take (i := 13) rfl (by kernel_rfl) (pureVal_ok rfl) ((List.Sublist.cons _ (List.Sublist.cons_cons _ (List.nil_sublist _)))) rfl rfl rfl ?_
        refine ExD.take (i := 14) rfl (by kernel_rfl) (pureVal_ok rfl) ((List.Sublist.cons _ (List.Sublist.cons_cons _ (List.nil_sublist _)))) rfl rfl rfl ?_
        refine ExD.take (i := 15) rfl (by kernel_rfl) (pureVal_ok rfl) ((List.Sublist.cons _ (List.Sublist.cons_cons _ (List.nil_sublist _)))) rfl rfl rfl ?_
        refine ExD.op (i := 16) rfl (by kernel_rfl) rfl (op_storeC (i := 0) rfl rfl rfl rfl rfl rfl rfl rfl rfl rfl ⟨(List.Sublist.cons _ (List.Sublist.cons_cons _ (List.nil_sublist _))), ?_⟩)
        refine ExD.done (by kernel_rfl) ?_
        refine Ex.regSeq (ExL.pures 2 rfl ?_)
        refine ExL.nil ?_
        refine Ex.ret ?_
        refine MutQ.mk () rfl (.tmp rfl .nil) (tI (by first | (rw [pv_stop (by assumption)]; first | done | rfl) | (rw [uw_pos (d := d) (st := 1) (by omega), pv_hit (by assumption) ⟨by omega, by omega⟩]; first | done | rfl) | (rw [pv_on (by assumption) (by omega)]; first | done | rfl))) 2 [0, 1] (by first | (rw [pv_stop (by assumption)]; first | done | rfl) | (rw [uw_pos (d := d) (st := 1) (by omega), pv_hit (by assumption) ⟨by omega, by omega⟩, Int.one_mul]; first | done | rfl) | (rw [pv_on (by assumption) (by omega), Int.one_mul]; first | done | rfl)) rfl (trivial)
      · refine ExL.pures 1 rfl ?_
        refine ExL.nil ?_
        refine Ex.cond_f rfl ?_
        refine Ex.skip ?_
        refine Ex.seq ?_
        refine Ex.regSeq (ExL.pures 1 rfl ?_)
        refine ExL.nil ?_
        refine Ex.cond_f rfl ?_
        refine Ex.skip ?_
        refine Ex.drawSeqI [1] rfl rfl ?_
        refine ExD.take (i := 0) rfl (by kernel_rfl) (pureVal_ok rfl) ((List.Sublist.cons _ (List.Sublist.cons_cons _ (List.nil_sublist _)))) rfl rfl rfl ?_
        refine ExD.take (i := 1) rfl (by kernel_rfl) (pureVal_ok rfl) ((List.Sublist.cons _ (List.Sublist.cons_cons _ (List.nil_sublist _)))) rfl rfl rfl ?_
        refine ExD.take (i := 2) rfl (by kernel_rfl) (pureVal_ok rfl) ((List.Sublist.cons _ (List.Sublist.cons_cons _ (List.nil_sublist _)))) rfl rfl rfl ?_
        refine ExD.take (i := 3) rfl (by kernel_rfl) (pureVal_ok rfl) ((List.Sublist.cons _ (List.Sublist.cons_cons _ (List.nil_sublist _)))) rfl rfl rfl ?_
        refine ExD.take (i := 5) rfl (by kernel_rfl) (pureVal_ok rfl) ((List.Sublist.cons _ (List.Sublist.cons_cons _ (List.nil_sublist _)))) rfl rfl rfl ?_
        refine ExD.take (i := 6) rfl (by kernel_rfl) (pureVal_ok rfl) ((List.Sublist.cons _ (List.Sublist.cons_cons _ (List.nil_sublist _)))) rfl rfl rfl ?_
        refine ExD.take (i := 7) rfl (by kernel_rfl) (pureVal_ok rfl) ((List.Sublist.cons _ (List.Sublist.cons_cons _ (List.nil_sublist _)))) rfl rfl rfl ?_
        refine ExD.take (i := 9) rfl (by kernel_rfl) (pureVal_ok rfl) ((List.Sublist.cons _ (List.Sublist.cons_cons _ (List.nil_sublist _)))) rfl rfl rfl ?_
        refine ExD.two (i := 4) (j := 8) rfl rfl (by kernel_rfl) (by kernel_rfl) (by kernel_rfl) rfl (List.Sublist.cons _ (List.Sublist.cons_cons _ (List.nil_sublist _))) rfl rfl rfl rfl rfl rfl rfl rfl rfl (fr_load rfl rfl rfl rfl (CellO.blk (i := 0) rfl rfl)) (fr_loadN rfl rfl rfl rfl rfl (SegO.part (i := 0) 8 rfl)) (fr_load rfl rfl rfl rfl (CellO.blk (i := 0) rfl rfl)) (fr_loadN rfl rfl rfl rfl rfl (SegO.part (i := 0) 8 rfl)) ?_
        refine ExD.op (i := 10) rfl (by kernel_rfl) rfl (op_ret rfl rfl rfl (c_l01Add d.stack (by first | assumption | simp_all) _ _ d.shows (by assumption) (by first | assumption | simp_all) (by assumption) _ (by omega)) (Reads.get (Reads.row (i := 1) rfl)) rfl rfl (fun x6 hx6 => ⟨(List.Sublist.cons _ (List.Sublist.cons_cons _ (List.nil_sublist _))), ?_⟩))
        refine ExD.take (i := 11) rfl (by kernel_rfl) (pureVal_ok rfl) ((List.Sublist.cons _ (List.Sublist.cons_cons _ (List.nil_sublist _)))) rfl rfl rfl ?_
        refine ExD.take (i := 12) rfl (by kernel_rfl) (pureVal_ok rfl) ((List.Sublist.cons _ (List.Sublist.cons_cons _ (List.nil_sublist _)))) rfl rfl rfl ?_
        refine ExD.take (i := 13) rfl (by kernel_rfl) (pureVal_ok rfl) ((List.Sublist.cons _ (List.Sublist.cons_cons _ (List.nil_sublist _)))) rfl rfl rfl ?_
        refine ExD.take (i := 14) rfl (by kernel_rfl) (pureVal_ok rfl) ((List.Sublist.cons _ (List.Sublist.cons_cons _ (List.nil_sublist _)))) rfl rfl rfl ?_
        refine ExD.take (i := 15) rfl (by kernel_rfl) (pureVal_ok rfl) ((List.Sublist.cons _ (List.Sublist.cons_cons _ (List.nil_sublist _)))) rfl rfl rfl ?_
        refine ExD.op (i := 16) rfl (by kernel_rfl) rfl (op_storeC (i := 0) rfl rfl rfl rfl rfl rfl rfl rfl rfl rfl ⟨(List.Sublist.cons _ (List.Sublist.cons_cons _ (List.nil_sublist _))), ?_⟩)
        refine ExD.done (by kernel_rfl) ?_
        refine Ex.regSeq (ExL.pures 2 rfl ?_)
        refine ExL.nil ?_
        refine Ex.ret ?_
        refine MutQ.mk () rfl (.tmp rfl .nil) (tI (by first | (rw [pv_stop (by assumption)]; first | done | rfl) | (rw [uw_pos (d := d) (st := 1) (by omega), pv_hit (by assumption) ⟨by omega, by omega⟩]; first | done | rfl) | (rw [pv_on (by assumption) (by omega)]; first | done | rfl))) 2 [0, 1] (by first | (rw [pv_stop (by assumption)]; first | done | rfl) | (rw [uw_pos (d := d) (st := 1) (by omega), pv_hit (by assumption) ⟨by omega, by omega⟩, Int.one_mul]; first | done | rfl) | (rw [pv_on (by assumption) (by omega), Int.one_mul]; first | done | rfl)) rfl (trivial)
    · refine ExL.pures 5 rfl ?_
      refine ExL.nil ?_
      refine Ex.cond_f rfl ?_
      refine Ex.skip ?_
      refine Ex.seq ?_
      refine Ex.regSeq (ExL.pures 1 rfl ?_)
      refine ExL.nil ?_
      refine Ex.cond_f rfl ?_
      refine Ex.skip ?_
      refine Ex.drawSeqI [1] rfl rfl ?_
      refine ExD.take (i := 0) rfl (by kernel_rfl) (pureVal_ok rfl) ((List.Sublist.cons _ (List.Sublist.cons_cons _ (List.nil_sublist _)))) rfl rfl rfl ?_
      refine ExD.take (i := 1) rfl (by kernel_rfl) (pureVal_ok rfl) ((List.Sublist.cons _ (List.Sublist.cons_cons _ (List.nil_sublist _)))) rfl rfl rfl ?_
      refine ExD.take (i := 2) rfl (by kernel_rfl) (pureVal_ok rfl) ((List.Sublist.cons _ (List.Sublist.cons_cons _ (List.nil_sublist _)))) rfl rfl rfl ?_
      refine ExD.take (i := 3) rfl (by kernel_rfl) (pureVal_ok rfl) ((List.Sublist.cons _ (List.Sublist.cons_cons _ (List.nil_sublist _)))) rfl rfl rfl ?_
      refine ExD.take (i := 5) rfl (by kernel_rfl) (pureVal_ok rfl) ((List.Sublist.cons _ (List.Sublist.cons_cons _ (List.nil_sublist _)))) rfl rfl rfl ?_
      refine ExD.take (i := 6) rfl (by kernel_rfl) (pureVal_ok rfl) ((List.Sublist.cons _ (List.Sublist.cons_cons _ (List.nil_sublist _)))) rfl rfl rfl ?_
      refine ExD.take (i := 7) rfl (by kernel_rfl) (pureVal_ok rfl) ((List.Sublist.cons _ (List.Sublist.cons_cons _ (List.nil_sublist _)))) rfl rfl rfl ?_
      refine ExD.take (i := 9) rfl (by kernel_rfl) (pureVal_ok rfl) ((List.Sublist.cons _ (List.Sublist.cons_cons _ (List.nil_sublist _)))) rfl rfl rfl ?_
      refine ExD.two (i := 4) (j := 8) rfl rfl (by kernel_rfl) (by kernel_rfl) (by kernel_rfl) rfl (List.Sublist.cons _ (List.Sublist.cons_cons _ (List.nil_sublist _))) rfl rfl rfl rfl rfl rfl rfl rfl rfl (fr_load rfl rfl rfl rfl (CellO.blk (i := 0) rfl rfl)) (fr_loadN rfl rfl rfl rfl rfl (SegO.part (i := 0) 8 rfl)) (fr_load rfl rfl rfl rfl (CellO.blk (i := 0) rfl rfl)) (fr_loadN rfl rfl rfl rfl rfl (SegO.part (i := 0) 8 rfl)) ?_
      refine ExD.op (i := 10) rfl (by kernel_rfl) rfl (op_ret rfl rfl rfl (c_l01Add d.stack (by first | assumption | simp_all) _ _ d.shows (by assumption) (by first | assumption | simp_all) (by assumption) _ (by omega)) (Reads.get (Reads.row (i := 1) rfl)) rfl rfl (fun x7 hx7 => ⟨(List.Sublist.cons _ (List.Sublist.cons_cons _ (List.nil_sublist _))), ?_⟩))
      refine ExD.take (i := 11) rfl (by kernel_rfl) (pureVal_ok rfl) ((List.Sublist.cons _ (List.Sublist.cons_cons _ (List.nil_sublist _)))) rfl rfl rfl ?_
      refine ExD.take (i := 12) rfl (by kernel_rfl) (pureVal_ok rfl) ((List.Sublist.cons _ (List.Sublist.cons_cons _ (List.nil_sublist _)))) rfl rfl rfl ?_
      refine ExD.take (i := 13) rfl (by kernel_rfl) (pureVal_ok rfl) ((List.Sublist.cons _ (List.Sublist.cons_cons _ (List.nil_sublist _)))) rfl rfl rfl ?_
      refine ExD.take (i := 14) rfl (by kernel_rfl) (pureVal_ok rfl) ((List.Sublist.cons _ (List.Sublist.cons_cons _ (List.nil_sublist _)))) rfl rfl rfl ?_
      refine ExD.take (i := 15) rfl (by kernel_rfl) (pureVal_ok rfl) ((List.Sublist.cons _ (List.Sublist.cons_cons _ (List.nil_sublist _)))) rfl rfl rfl ?_
      refine ExD.op (i := 16) rfl (by kernel_rfl) rfl (op_storeC (i := 0) rfl rfl rfl rfl rfl rfl rfl rfl rfl rfl ⟨(List.Sublist.cons _ (List.Sublist.cons_cons _ (List.nil_sublist _))), ?_⟩)
      refine ExD.done (by kernel_rfl) ?_
      refine Ex.regSeq (ExL.pures 2 rfl ?_)
      refine ExL.nil ?_
      refine Ex.ret ?_
      refine MutQ.mk () rfl (.tmp rfl .nil) (tI (by first | (rw [pv_stop (by assumption)]; first | done | rfl) | (rw [uw_pos (d := d) (st := 1) (by omega), pv_hit (by assumption) ⟨by omega, by omega⟩]; first | done | rfl) | (rw [pv_on (by assumption) (by omega)]; first | done | rfl))) 2 [0, 1] (by first | (rw [pv_stop (by assumption)]; first | done | rfl) | (rw [uw_pos (d := d) (st := 1) (by omega), pv_hit (by assumption) ⟨by omega, by omega⟩, Int.one_mul]; first | done | rfl) | (rw [pv_on (by assumption) (by omega), Int.one_mul]; first | done | rfl)) rfl (trivial)
theorem c_l07Count_t (d : VDev) (hk : OkDev d) (hv : validDev d = true) (Ad : Option Addr) (cd : Nat) (b : Nat) (n : Int) (hn : 0 ≤ n ∧ n ≤ 1000000000000) : Mut Tryz.prog 77 [.pointer (some ⟨b, 0, none⟩), .int .i64 n, .bool true] [.blk b (encV Ad cd d) 28, .row (.slice Ad d.stack.length cd) 5 1 d.stack.length (d.stack.flatMap (eI .u8))] (fun base w0 F => True) (fun x : Unit => .int .i64 (pulseV d n (-1)).2) (fun x => [.blk b (encV Ad cd (pulseV d n (-1)).1) 28, .row (.slice Ad d.stack.length cd) 5 1 d.stack.length (d.stack.flatMap (eI .u8))]) (fun x => True) := by
  refine Mut.of e_77 Tryz.func77 rfl Tryz.ntmps77 rfl rfl (fun base w0 F hfr => ?_)
  have hkk := hk
  obtain ⟨hl, hu, ha, hpp, htt⟩ := hk
  have hO := devOk ha hv
  have hvs : validStack d.stack = true := by unfold validDev at hv; rw [decide_eq_true_iff] at hv; exact hv.1
  have hvd := hO.vd
  have hm0 : maxLen = 9223372036854775807 := rfl
  have hz := sizeS hO
  have hle := hO.stk.le
  have hps := hO.stk.pos
  have hlt : 0 ≤ val d.stack d.shows.l ∧ val d.stack d.shows.l < prod d.stack := hO.v_lt
  have hpr := hO.preset
  have htk := hO.tick
  have hub := until_bd hO (-1)
  have huw := uw (d := d) (st := -1)
  refine Ex.regSeq (ExL.pures 1 rfl ?_)
  refine ExL.nil ?_
  refine Ex.seq ?_
  refine Ex.regSeq (ExL.pures 3 rfl ?_)
  refine ExL.free (fr_load rfl rfl rfl rfl (CellO.blk (i := 0) rfl rfl)) rfl rfl rfl ?_
  refine ExL.nil ?_
  refine Ex.cond rfl (fun hb1 => ?_) (fun hb1 => ?_)
  · refine Ex.regSeq (ExL.pures 2 rfl ?_)
    refine ExL.nil ?_
    refine Ex.ret ?_
    refine MutQ.mk () rfl (.tmp rfl .nil) (tI (by first | (rw [pv_stop (by assumption)]; first | done | rfl) | (rw [uw_pos (d := d) (st := -1) (by omega), pv_hit (by assumption) ⟨by omega, by omega⟩]; first | done | rfl) | (rw [pv_on (by assumption) (by omega)]; first | done | rfl))) 2 [0, 1] (by first | (rw [pv_stop (by assumption)]; first | done | rfl) | (rw [uw_pos (d := d) (st := -1) (by omega), pv_hit (by assumption) ⟨by omega, by omega⟩, Int.neg_mul, Int.one_mul]; first | done | rfl) | (rw [pv_on (by assumption) (by omega), Int.neg_mul, Int.one_mul]; first | done | rfl)) rfl (trivial)
  · refine Ex.skip ?_
    refine Ex.regSeq (ExL.pures 2 rfl ?_)
    refine ExL.op rfl (op_ret rfl rfl rfl (c_lu_t d (by first | assumption | exact ⟨by assumption, by assumption, by assumption, by assumption, by assumption⟩) (by assumption) _ _ _) (fun w hw => ⟨Reads.get (Reads.blk (i := 0) rfl) w hw, Reads.get (Reads.row (i := 1) rfl) w hw⟩) rfl rfl (fun x2 hx2 => ?_))
    refine ExL.pures 1 rfl ?_
    refine ExL.nil ?_
    refine Ex.regSeq (ExL.pures 1 rfl ?_)
    refine ExL.nil ?_
    refine Ex.seq ?_
    refine Ex.regSeq (ExL.pures 1 rfl ?_)
    refine ExL.geq rfl rfl rfl rfl rfl rfl (fun h3 => ?_) (fun h3 => ?_)
    · refine ExL.pures 3 rfl ?_
      refine ExL.geq rfl rfl rfl rfl rfl rfl (fun h4 => ?_) (fun h4 => ?_)
      · refine ExL.pures 1 rfl ?_
        refine ExL.nil ?_
        refine Ex.cond_t rfl ?_
        refine Ex.regSeq (ExL.pures 2 rfl ?_)
        refine ExL.free (by first | exact fr_sub64 rfl rfl rfl (by omega) | exact fr_sub rfl rfl rfl) rfl rfl rfl ?_
        refine ExL.pures 1 rfl ?_
        refine ExL.nil ?_
        refine Ex.regSeq (ExL.pures 2 rfl ?_)
        refine ExL.nil ?_
        refine Ex.region (ExL.pures 3 rfl ?_)
        refine ExL.op rfl (op_storeC (i := 0) rfl rfl rfl rfl rfl rfl rfl rfl rfl rfl ?_)
        refine ExL.nil ?_
        refine Ex.seq ?_
        refine Ex.regSeq (ExL.pures 1 rfl ?_)
        refine ExL.nil ?_
        refine Ex.cond_t rfl ?_
        refine Ex.region (ExL.pures 1 rfl ?_)
        refine ExL.free (by first | exact fr_neg64 rfl rfl (by omega) | exact fr_neg rfl rfl) rfl rfl rfl ?_
        refine ExL.pures 1 rfl ?_
        refine ExL.nil ?_
        refine Ex.drawSeqI [1] rfl rfl ?_
        refine ExD.take (i := 0) rfl (by kernel_rfl) (pureVal_ok rfl) ((List.Sublist.cons _ (List.Sublist.cons_cons _ (List.nil_sublist _)))) rfl rfl rfl ?_
        refine ExD.take (i := 1) rfl (by kernel_rfl) (pureVal_ok rfl) ((List.Sublist.cons _ (List.Sublist.cons_cons _ (List.nil_sublist _)))) rfl rfl rfl ?_
        refine ExD.take (i := 2) rfl (by kernel_rfl) (pureVal_ok rfl) ((List.Sublist.cons _ (List.Sublist.cons_cons _ (List.nil_sublist _)))) rfl rfl rfl ?_
        refine ExD.take (i := 3) rfl (by kernel_rfl) (pureVal_ok rfl) ((List.Sublist.cons _ (List.Sublist.cons_cons _ (List.nil_sublist _)))) rfl rfl rfl ?_
        refine ExD.take (i := 5) rfl (by kernel_rfl) (pureVal_ok rfl) ((List.Sublist.cons _ (List.Sublist.cons_cons _ (List.nil_sublist _)))) rfl rfl rfl ?_
        refine ExD.take (i := 6) rfl (by kernel_rfl) (pureVal_ok rfl) ((List.Sublist.cons _ (List.Sublist.cons_cons _ (List.nil_sublist _)))) rfl rfl rfl ?_
        refine ExD.take (i := 7) rfl (by kernel_rfl) (pureVal_ok rfl) ((List.Sublist.cons _ (List.Sublist.cons_cons _ (List.nil_sublist _)))) rfl rfl rfl ?_
        refine ExD.take (i := 9) rfl (by kernel_rfl) (pureVal_ok rfl) ((List.Sublist.cons _ (List.Sublist.cons_cons _ (List.nil_sublist _)))) rfl rfl rfl ?_
        refine ExD.two (i := 4) (j := 8) rfl rfl (by kernel_rfl) (by kernel_rfl) (by kernel_rfl) rfl (List.Sublist.cons _ (List.Sublist.cons_cons _ (List.nil_sublist _))) rfl rfl rfl rfl rfl rfl rfl rfl rfl (fr_load rfl rfl rfl rfl (CellO.blk (i := 0) rfl rfl)) (fr_loadN rfl rfl rfl rfl rfl (SegO.part (i := 0) 8 rfl)) (fr_load rfl rfl rfl rfl (CellO.blk (i := 0) rfl rfl)) (fr_loadN rfl rfl rfl rfl rfl (SegO.part (i := 0) 8 rfl)) ?_
        refine ExD.op (i := 10) rfl (by kernel_rfl) rfl (op_ret rfl rfl rfl (c_l01Add d.stack (by first | assumption | simp_all) _ _ d.shows (by assumption) (by first | assumption | simp_all) (by assumption) _ (by omega)) (Reads.get (Reads.row (i := 1) rfl)) rfl rfl (fun x5 hx5 => ⟨(List.Sublist.cons _ (List.Sublist.cons_cons _ (List.nil_sublist _))), ?_⟩))
        refine ExD.take (i := 11) rfl (by kernel_rfl) (pureVal_ok rfl) ((List.Sublist.cons _ (List.Sublist.cons_cons _ (List.nil_sublist _)))) rfl rfl rfl ?_
        refine ExD.take (i := 12) rfl (by kernel_rfl) (pureVal_ok rfl) ((List.Sublist.cons _ (List.Sublist.cons_cons _ (List.nil_sublist _)))) rfl rfl rfl ?_
        refine ExD.take (i := 13) rfl (by kernel_rfl) (pureVal_ok rfl) ((List.Sublist.cons _ (List.Sublist.cons_cons _ (List.nil_sublist _)))) rfl rfl rfl ?_
        refine ExD.take (i := 14) rfl (by kernel_rfl) (pureVal_ok rfl) ((List.Sublist.cons _ (List.Sublist.cons_cons _ (List.nil_sublist _)))) rfl rfl rfl ?_
        refine ExD.take (i := 15) rfl (by kernel_rfl) (pureVal_ok rfl) ((List.Sublist.cons _ (List.Sublist.cons_cons _ (List.nil_sublist _)))) rfl rfl rfl ?_
        refine ExD.op (i := 16) rfl (by kernel_rfl) rfl (op_storeC (i := 0) rfl rfl rfl rfl rfl rfl rfl rfl rfl rfl ⟨(List.Sublist.cons _ (List.Sublist.cons_cons _ (List.nil_sublist _))), ?_⟩)
        refine ExD.done (by kernel_rfl) ?_
        refine Ex.regSeq (ExL.pures 2 rfl ?_)
        refine ExL.nil ?_
        refine Ex.ret ?_
        refine MutQ.mk () rfl (.tmp rfl .nil) (tI (by first | (rw [pv_stop (by assumption)]; first | done | rfl) | (rw [uw_pos (d := d) (st := -1) (by omega), pv_hit (by assumption) ⟨by omega, by omega⟩]; first | done | rfl) | (rw [pv_on (by assumption) (by omega)]; first | done | rfl))) 2 [0, 1] (by first | (rw [pv_stop (by assumption)]; first | done | rfl) | (rw [uw_pos (d := d) (st := -1) (by omega), pv_hit (by assumption) ⟨by omega, by omega⟩, Int.neg_mul, Int.one_mul]; first | done | rfl) | (rw [pv_on (by assumption) (by omega), Int.neg_mul, Int.one_mul]; first | done | rfl)) rfl (trivial)
      · refine ExL.pures 1 rfl ?_
        refine ExL.nil ?_
        refine Ex.cond_f rfl ?_
        refine Ex.skip ?_
        refine Ex.seq ?_
        refine Ex.regSeq (ExL.pures 1 rfl ?_)
        refine ExL.nil ?_
        refine Ex.cond_t rfl ?_
        refine Ex.region (ExL.pures 1 rfl ?_)
        refine ExL.free (by first | exact fr_neg64 rfl rfl (by omega) | exact fr_neg rfl rfl) rfl rfl rfl ?_
        refine ExL.pures 1 rfl ?_
        refine ExL.nil ?_
        refine Ex.drawSeqI [1] rfl rfl ?_
        refine ExD.take (i := 0) rfl (by kernel_rfl) (pureVal_ok rfl) ((List.Sublist.cons _ (List.Sublist.cons_cons _ (List.nil_sublist _)))) rfl rfl rfl ?_
        refine ExD.take (i := 1) rfl (by kernel_rfl) (pureVal_ok rfl) ((List.Sublist.cons _ (List.Sublist.cons_cons _ (List.nil_sublist _)))) rfl rfl rfl ?_
        refine ExD.take (i := 2) rfl (by kernel_rfl) (pureVal_ok rfl) ((List.Sublist.cons _ (List.Sublist.cons_cons _ (List.nil_sublist _)))) rfl rfl rfl ?_
        refine ExD.take (i := 3) rfl (by kernel_rfl) (pureVal_ok rfl) ((List.Sublist.cons _ (List.Sublist.cons_cons _ (List.nil_sublist _)))) rfl rfl rfl ?_
        refine ExD.take (i := 5) rfl (by kernel_rfl) (pureVal_ok rfl) ((List.Sublist.cons _ (List.Sublist.cons_cons _ (List.nil_sublist _)))) rfl rfl rfl ?_
        refine ExD.take (i := 6) rfl (by kernel_rfl) (pureVal_ok rfl) ((List.Sublist.cons _ (List.Sublist.cons_cons _ (List.nil_sublist _)))) rfl rfl rfl ?_
        refine ExD.take (i := 7) rfl (by kernel_rfl) (pureVal_ok rfl) ((List.Sublist.cons _ (List.Sublist.cons_cons _ (List.nil_sublist _)))) rfl rfl rfl ?_
        refine ExD.take (i := 9) rfl (by kernel_rfl) (pureVal_ok rfl) ((List.Sublist.cons _ (List.Sublist.cons_cons _ (List.nil_sublist _)))) rfl rfl rfl ?_
        refine ExD.two (i := 4) (j := 8) rfl rfl (by kernel_rfl) (by kernel_rfl) (by kernel_rfl) rfl (List.Sublist.cons _ (List.Sublist.cons_cons _ (List.nil_sublist _))) rfl rfl rfl rfl rfl rfl rfl rfl rfl (fr_load rfl rfl rfl rfl (CellO.blk (i := 0) rfl rfl)) (fr_loadN rfl rfl rfl rfl rfl (SegO.part (i := 0) 8 rfl)) (fr_load rfl rfl rfl rfl (CellO.blk (i := 0) rfl rfl)) (fr_loadN rfl rfl rfl rfl rfl (SegO.part (i := 0) 8 rfl)) ?_
        refine ExD.op (i := 10) rfl (by kernel_rfl) rfl (op_ret rfl rfl rfl (c_l01Add d.stack (by first | assumption | simp_all) _ _ d.shows (by assumption) (by first | assumption | simp_all) (by assumption) _ (by omega)) (Reads.get (Reads.row (i := 1) rfl)) rfl rfl (fun x6 hx6 => ⟨(List.Sublist.cons _ (List.Sublist.cons_cons _ (List.nil_sublist _))), ?_⟩))
        refine ExD.take (i := 11) rfl (by kernel_rfl) (pureVal_ok rfl) ((List.Sublist.cons _ (List.Sublist.cons_cons _ (List.nil_sublist _)))) rfl rfl rfl ?_
        refine ExD.take (i := 12) rfl (by kernel_rfl) (pureVal_ok rfl) ((List.Sublist.cons _ (List.Sublist.cons_cons _ (List.nil_sublist _)))) rfl rfl rfl ?_
        refine ExD.take (i := 13) rfl (by kernel_rfl) (pureVal_ok rfl) ((List.Sublist.cons _ (List.Sublist.cons_cons _ (List.nil_sublist _)))) rfl rfl rfl ?_
        refine ExD.take (i := 14) rfl (by kernel_rfl) (pureVal_ok rfl) ((List.Sublist.cons _ (List.Sublist.cons_cons _ (List.nil_sublist _)))) rfl rfl rfl ?_
        refine ExD.take (i := 15) rfl (by kernel_rfl) (pureVal_ok rfl) ((List.Sublist.cons _ (List.Sublist.cons_cons _ (List.nil_sublist _)))) rfl rfl rfl ?_
        refine ExD.op (i := 16) rfl (by kernel_rfl) rfl (op_storeC (i := 0) rfl rfl rfl rfl rfl rfl rfl rfl rfl rfl ⟨(List.Sublist.cons _ (List.Sublist.cons_cons _ (List.nil_sublist _))), ?_⟩)
        refine ExD.done (by kernel_rfl) ?_
        refine Ex.regSeq (ExL.pures 2 rfl ?_)
        refine ExL.nil ?_
        refine Ex.ret ?_
        refine MutQ.mk () rfl (.tmp rfl .nil) (tI (by first | (rw [pv_stop (by assumption)]; first | done | rfl) | (rw [uw_pos (d := d) (st := -1) (by omega), pv_hit (by assumption) ⟨by omega, by omega⟩]; first | done | rfl) | (rw [pv_on (by assumption) (by omega)]; first | done | rfl))) 2 [0, 1] (by first | (rw [pv_stop (by assumption)]; first | done | rfl) | (rw [uw_pos (d := d) (st := -1) (by omega), pv_hit (by assumption) ⟨by omega, by omega⟩, Int.neg_mul, Int.one_mul]; first | done | rfl) | (rw [pv_on (by assumption) (by omega), Int.neg_mul, Int.one_mul]; first | done | rfl)) rfl (trivial)
    · refine ExL.pures 5 rfl ?_
      refine ExL.nil ?_
      refine Ex.cond_f rfl ?_
      refine Ex.skip ?_
      refine Ex.seq ?_
      refine Ex.regSeq (ExL.pures 1 rfl ?_)
      refine ExL.nil ?_
      refine Ex.cond_t rfl ?_
      refine Ex.region (ExL.pures 1 rfl ?_)
      refine ExL.free (by first | exact fr_neg64 rfl rfl (by omega) | exact fr_neg rfl rfl) rfl rfl rfl ?_
      refine ExL.pures 1 rfl ?_
      refine ExL.nil ?_
      refine Ex.drawSeqI [1] rfl rfl ?_
      refine ExD.take (i := 0) rfl (by kernel_rfl) (pureVal_ok rfl) ((List.Sublist.cons _ (List.Sublist.cons_cons _ (List.nil_sublist _)))) rfl rfl rfl ?_
      refine ExD.take (i := 1) rfl (by kernel_rfl) (pureVal_ok rfl) ((List.Sublist.cons _ (List.Sublist.cons_cons _ (List.nil_sublist _)))) rfl rfl rfl ?_
      refine ExD.take (i := 2) rfl (by kernel_rfl) (pureVal_ok rfl) ((List.Sublist.cons _ (List.Sublist.cons_cons _ (List.nil_sublist _)))) rfl rfl rfl ?_
      refine ExD.take (i := 3) rfl (by kernel_rfl) (pureVal_ok rfl) ((List.Sublist.cons _ (List.Sublist.cons_cons _ (List.nil_sublist _)))) rfl rfl rfl ?_
      refine ExD.take (i := 5) rfl (by kernel_rfl) (pureVal_ok rfl) ((List.Sublist.cons _ (List.Sublist.cons_cons _ (List.nil_sublist _)))) rfl rfl rfl ?_
      refine ExD.take (i := 6) rfl (by kernel_rfl) (pureVal_ok rfl) ((List.Sublist.cons _ (List.Sublist.cons_cons _ (List.nil_sublist _)))) rfl rfl rfl ?_
      refine ExD.take (i := 7) rfl (by kernel_rfl) (pureVal_ok rfl) ((List.Sublist.cons _ (List.Sublist.cons_cons _ (List.nil_sublist _)))) rfl rfl rfl ?_
      refine ExD.take (i := 9) rfl (by kernel_rfl) (pureVal_ok rfl) ((List.Sublist.cons _ (List.Sublist.cons_cons _ (List.nil_sublist _)))) rfl rfl rfl ?_
      refine ExD.two (i := 4) (j := 8) rfl rfl (by kernel_rfl) (by kernel_rfl) (by kernel_rfl) rfl (List.Sublist.cons _ (List.Sublist.cons_cons _ (List.nil_sublist _))) rfl rfl rfl rfl rfl rfl rfl rfl rfl (fr_load rfl rfl rfl rfl (CellO.blk (i := 0) rfl rfl)) (fr_loadN rfl rfl rfl rfl rfl (SegO.part (i := 0) 8 rfl)) (fr_load rfl rfl rfl rfl (CellO.blk (i := 0) rfl rfl)) (fr_loadN rfl rfl rfl rfl rfl (SegO.part (i := 0) 8 rfl)) ?_
      refine ExD.op (i := 10) rfl (by kernel_rfl) rfl (op_ret rfl rfl rfl (c_l01Add d.stack (by first | assumption | simp_all) _ _ d.shows (by assumption) (by first | assumption | simp_all) (by assumption) _ (by omega)) (Reads.get (Reads.row (i := 1) rfl)) rfl rfl (fun x7 hx7 => ⟨(List.Sublist.cons _ (List.Sublist.cons_cons _ (List.nil_sublist _))), ?_⟩))
      refine ExD.take (i := 11) rfl (by kernel_rfl) (pureVal_ok rfl) ((List.Sublist.cons _ (List.Sublist.cons_cons _ (List.nil_sublist _)))) rfl rfl rfl ?_
      refine ExD.take (i := 12) rfl (by kernel_rfl) (pureVal_ok rfl) ((List.Sublist.cons _ (List.Sublist.cons_cons _ (List.nil_sublist _)))) rfl rfl rfl ?_
      refine ExD.take (i := 13) rfl (by kernel_rfl) (pureVal_ok rfl) ((List.Sublist.cons _ (List.Sublist.cons_cons _ (List.nil_sublist _)))) rfl rfl rfl ?_
      refine ExD.take (i := 14) rfl (by kernel_rfl) (pureVal_ok rfl) ((List.Sublist.cons _ (List.Sublist.cons_cons _ (List.nil_sublist _)))) rfl rfl rfl ?_
      refine ExD.take (i := 15) rfl (by kernel_rfl) (pureVal_ok rfl) ((List.Sublist.cons _ (List.Sublist.cons_cons _ (List.nil_sublist _)))) rfl rfl rfl ?_
      refine ExD.op (i := 16) rfl (by kernel_rfl) rfl (op_storeC (i := 0) rfl rfl rfl rfl rfl rfl rfl rfl rfl rfl ⟨(List.Sublist.cons _ (List.Sublist.cons_cons _ (List.nil_sublist _))), ?_⟩)
      refine ExD.done (by kernel_rfl) ?_
      refine Ex.regSeq (ExL.pures 2 rfl ?_)
      refine ExL.nil ?_
      refine Ex.ret ?_
      refine MutQ.mk () rfl (.tmp rfl .nil) (tI (by first | (rw [pv_stop (by assumption)]; first | done | rfl) | (rw [uw_pos (d := d) (st := -1) (by omega), pv_hit (by assumption) ⟨by omega, by omega⟩]; first | done | rfl) | (rw [pv_on (by assumption) (by omega)]; first | done | rfl))) 2 [0, 1] (by first | (rw [pv_stop (by assumption)]; first | done | rfl) | (rw [uw_pos (d := d) (st := -1) (by omega), pv_hit (by assumption) ⟨by omega, by omega⟩, Int.neg_mul, Int.one_mul]; first | done | rfl) | (rw [pv_on (by assumption) (by omega), Int.neg_mul, Int.one_mul]; first | done | rfl)) rfl (trivial)
theorem e_93 : Enters Tryz.prog 93 := Enters.of Tryz.func93 rfl
theorem c_shows (d : VDev) (hv : validStack d.stack = true) (hd0 : validDig d.stack d.shows.l = true) (ha : Nums 255 d.shows.l) (Ad : Option Addr) (cd : Nat) (b : Nat) : Ret Tryz.prog 93 [.pointer (some ⟨b, 0, none⟩)] (fun w => Rd w (some ⟨b, 0, none⟩) (encV Ad cd d) ∧ Rd w Ad (d.stack.flatMap (eI .u8))) (fun x : Unit => .bool (decide (d.preset = d.v))) (fun x => []) (fun x => True) := by
  refine Ret.of e_93 Tryz.func93 rfl Tryz.ntmps93 rfl rfl (fun w hpre => ?_)
  have hp := hpre.1.base
  have hd := hpre.2.base
  refine Ex.regSeq (ExL.pures 1 rfl ?_)
  refine ExL.nil ?_
  refine Ex.drawSeqM rfl ?_
  refine ExD.take (i := 0) rfl (by kernel_rfl) (pureVal_ok rfl) ((List.Sublist.refl _)) rfl rfl rfl ?_
  refine ExD.take (i := 1) rfl (by kernel_rfl) (pureVal_ok rfl) ((List.Sublist.refl _)) rfl rfl rfl ?_
  refine ExD.take (i := 2) rfl (by kernel_rfl) (pureVal_ok rfl) ((List.Sublist.refl _)) rfl rfl rfl ?_
  refine ExD.take (i := 3) rfl (by kernel_rfl) (fr_load rfl rfl rfl rfl (CellO.at 9 (Reads.old hp) rfl)) ((List.Sublist.refl _)) rfl rfl rfl ?_
  refine ExD.take (i := 4) rfl (by kernel_rfl) (pureVal_ok rfl) ((List.Sublist.refl _)) rfl rfl rfl ?_
  refine ExD.take (i := 5) rfl (by kernel_rfl) (pureVal_ok rfl) ((List.Sublist.refl _)) rfl rfl rfl ?_
  refine ExD.take (i := 6) rfl (by kernel_rfl) (pureVal_ok rfl) ((List.Sublist.refl _)) rfl rfl rfl ?_
  refine ExD.take (i := 7) rfl (by kernel_rfl) (fr_load rfl rfl rfl rfl (CellO.at 0 (Reads.old hp) rfl)) ((List.Sublist.refl _)) rfl rfl rfl ?_
  refine ExD.take (i := 8) rfl (by kernel_rfl) (pureVal_ok rfl) ((List.Sublist.refl _)) rfl rfl rfl ?_
  refine ExD.take (i := 9) rfl (by kernel_rfl) (pureVal_ok rfl) ((List.Sublist.refl _)) rfl rfl rfl ?_
  refine ExD.take (i := 10) rfl (by kernel_rfl) (pureVal_ok rfl) ((List.Sublist.refl _)) rfl rfl rfl ?_
  refine ExD.take (i := 11) rfl (by kernel_rfl) (fr_loadN rfl rfl rfl rfl rfl (SegO.at 1 8 (Reads.old hp) rfl)) ((List.Sublist.refl _)) rfl rfl rfl ?_
  refine ExD.op (i := 12) rfl (by kernel_rfl) rfl (op_ret rfl rfl rfl (c_value d.stack (by first | assumption | simp_all) _ _ d.shows (by assumption) (by first | assumption | simp_all)) (Reads.get (Reads.old hd)) rfl rfl (fun x1 hx1 => ⟨(List.Sublist.refl _), ?_⟩))
  refine ExD.take (i := 13) rfl (by kernel_rfl) (fr_eql rfl rfl rfl) ((List.Sublist.refl _)) rfl rfl rfl ?_
  refine ExD.take (i := 14) rfl (by kernel_rfl) (pureVal_ok rfl) ((List.Sublist.refl _)) rfl rfl rfl ?_
  refine ExD.done (by kernel_rfl) ?_
  refine Ex.ret ?_
  refine RetQ.mk () rfl (.tmp rfl .nil) (rfl) [] (rfl) rfl (trivial)
theorem e_69 : Enters Tryz.prog 69 := Enters.of Tryz.func69 rfl
theorem c_do (d : VDev) (hk : OkDev d) (hv : validDev d = true) (Ad : Option Addr) (cd : Nat) (b : Nat) (a : VAct) (hact : validAct a = true) : Mut Tryz.prog 69 [.pointer (some ⟨b, 0, none⟩), .agg (encA a).toArray] [.blk b (encV Ad cd d) 28, .row (.slice Ad d.stack.length cd) 5 1 d.stack.length (d.stack.flatMap (eI .u8))] (fun base w0 F => True) (fun x : Unit => .tuple #[.int .i64 (doV d a).2.1, .int .i64 (doV d a).2.2]) (fun x => [.blk b (encV Ad cd (doV d a).1) 28, .row (.slice Ad d.stack.length cd) 5 1 d.stack.length (d.stack.flatMap (eI .u8))]) (fun x => True) := by
  refine Mut.of e_69 Tryz.func69 rfl Tryz.ntmps69 rfl rfl (fun base w0 F hfr => ?_)
  have hkk := hk
  have han := act_n hact
  obtain ⟨hl, hu, ha, hpp, htt⟩ := hk
  have hO := devOk ha hv
  have hvs : validStack d.stack = true := by unfold validDev at hv; rw [decide_eq_true_iff] at hv; exact hv.1
  have hvd := hO.vd
  have hm0 : maxLen = 9223372036854775807 := rfl
  have hz := sizeS hO
  have hle := hO.stk.le
  have hps := hO.stk.pos
  have hlt : 0 ≤ val d.stack d.shows.l ∧ val d.stack d.shows.l < prod d.stack := hO.v_lt
  have hpr := hO.preset
  have htk := hO.tick
  refine Ex.regSeq (ExL.pures 0 rfl ?_)
  refine ExL.op rfl (op_box rfl rfl rfl rfl rfl (fun b1 => ?_))
  refine ExL.pures 2 rfl ?_
  refine ExL.nil ?_
  refine Ex.seq ?_
  refine Ex.regSeq (ExL.pures 1 rfl ?_)
  refine ExL.free (fr_load rfl rfl rfl rfl (CellO.blk (i := 0) rfl rfl)) rfl rfl rfl ?_
  refine ExL.nil ?_
  refine Ex.block ?_
  refine Ex.regSeq (ExL.pures 0 rfl ?_)
  refine ExL.eql rfl rfl rfl rfl rfl rfl (fun h2 => ?_) (fun h2 => ?_)
  · refine ExL.pures 1 rfl ?_
    refine ExL.nil ?_
    refine Ex.cond_t rfl ?_
    refine Ex.regSeq (ExL.pures 2 rfl ?_)
    refine ExL.free (fr_load rfl rfl rfl rfl (CellO.blk (i := 0) rfl rfl)) rfl rfl rfl ?_
    refine ExL.op rfl (op_mut rfl rfl rfl (c_pulse d (by assumption) (by assumption) _ _ _ _ (1) (by omega) (by first | assumption | decide | omega)) (perm_lt (i := 1) (j := 2) rfl rfl rfl) (trivial) rfl rfl (fun x3 hx3 => ?_))
    refine ExL.pures 2 rfl ?_
    refine ExL.nil ?_
    refine Ex.ret ?_
    refine MutQ.mk () rfl (.tmp rfl (.tmp rfl .nil)) (t2 (vI (by first | (rw [do_1 (by assumption)]; first | done | rfl) | (rw [do_2 (by assumption)]; first | done | rfl) | (rw [do_3n (by assumption) (by omega)]; first | done | rfl) | (rw [do_3 (by assumption) (by omega)]; first | done | rfl) | (rw [do_4 (by assumption)]; first | done | rfl) | (rw [do_5n (by assumption) (by omega)]; first | done | rfl) | (rw [do_5 (by assumption) (by omega)]; first | done | rfl) | (rw [do_0 (by assumption) (by assumption) (by assumption) (by assumption) (by assumption)]; first | done | rfl))) (vI (by first | (rw [do_1 (by assumption)]; first | done | rfl) | (rw [do_2 (by assumption)]; first | done | rfl) | (rw [do_3n (by assumption) (by omega)]; first | done | rfl) | (rw [do_3 (by assumption) (by omega)]; first | done | rfl) | (rw [do_4 (by assumption)]; first | done | rfl) | (rw [do_5n (by assumption) (by omega)]; first | done | rfl) | (rw [do_5 (by assumption) (by omega)]; first | done | rfl) | (rw [do_0 (by assumption) (by assumption) (by assumption) (by assumption) (by assumption)]; first | done | rfl)))) 3 [0, 1] (by first | (rw [do_1 (by assumption)]; first | done | rfl) | (rw [do_2 (by assumption)]; first | done | rfl) | (rw [do_3n (by assumption) (by omega)]; first | done | rfl) | (rw [do_3 (by assumption) (by omega)]; first | done | rfl) | (rw [do_4 (by assumption)]; first | done | rfl) | (rw [do_5n (by assumption) (by omega)]; first | done | rfl) | (rw [do_5 (by assumption) (by omega)]; first | done | rfl) | (rw [do_0 (by assumption) (by assumption) (by assumption) (by assumption) (by assumption)]; first | done | rfl)) rfl (trivial)
  · refine ExL.pures 1 rfl ?_
    refine ExL.nil ?_
    refine Ex.cond_f rfl ?_
    refine Ex.regSeq (ExL.pures 0 rfl ?_)
    refine ExL.eql rfl rfl rfl rfl rfl rfl (fun h4 => ?_) (fun h4 => ?_)
    · refine ExL.pures 1 rfl ?_
      refine ExL.nil ?_
      refine Ex.cond_t rfl ?_
      refine Ex.regSeq (ExL.pures 2 rfl ?_)
      refine ExL.free (fr_load rfl rfl rfl rfl (CellO.blk (i := 0) rfl rfl)) rfl rfl rfl ?_
      refine ExL.op rfl (op_mut rfl rfl rfl (c_pulse d (by assumption) (by assumption) _ _ _ _ (-1) (by omega) (by first | assumption | decide | omega)) (perm_lt (i := 1) (j := 2) rfl rfl rfl) (trivial) rfl rfl (fun x5 hx5 => ?_))
      refine ExL.pures 2 rfl ?_
      refine ExL.nil ?_
      refine Ex.ret ?_
      refine MutQ.mk () rfl (.tmp rfl (.tmp rfl .nil)) (t2 (vI (by first | (rw [do_1 (by assumption)]; first | done | rfl) | (rw [do_2 (by assumption)]; first | done | rfl) | (rw [do_3n (by assumption) (by omega)]; first | done | rfl) | (rw [do_3 (by assumption) (by omega)]; first | done | rfl) | (rw [do_4 (by assumption)]; first | done | rfl) | (rw [do_5n (by assumption) (by omega)]; first | done | rfl) | (rw [do_5 (by assumption) (by omega)]; first | done | rfl) | (rw [do_0 (by assumption) (by assumption) (by assumption) (by assumption) (by assumption)]; first | done | rfl))) (vI (by first | (rw [do_1 (by assumption)]; first | done | rfl) | (rw [do_2 (by assumption)]; first | done | rfl) | (rw [do_3n (by assumption) (by omega)]; first | done | rfl) | (rw [do_3 (by assumption) (by omega)]; first | done | rfl) | (rw [do_4 (by assumption)]; first | done | rfl) | (rw [do_5n (by assumption) (by omega)]; first | done | rfl) | (rw [do_5 (by assumption) (by omega)]; first | done | rfl) | (rw [do_0 (by assumption) (by assumption) (by assumption) (by assumption) (by assumption)]; first | done | rfl)))) 3 [0, 1] (by first | (rw [do_1 (by assumption)]; first | done | rfl) | (rw [do_2 (by assumption)]; first | done | rfl) | (rw [do_3n (by assumption) (by omega)]; first | done | rfl) | (rw [do_3 (by assumption) (by omega)]; first | done | rfl) | (rw [do_4 (by assumption)]; first | done | rfl) | (rw [do_5n (by assumption) (by omega)]; first | done | rfl) | (rw [do_5 (by assumption) (by omega)]; first | done | rfl) | (rw [do_0 (by assumption) (by assumption) (by assumption) (by assumption) (by assumption)]; first | done | rfl)) rfl (trivial)
    · refine ExL.pures 1 rfl ?_
      refine ExL.nil ?_
      refine Ex.cond_f rfl ?_
      refine Ex.regSeq (ExL.pures 0 rfl ?_)
      refine ExL.eql rfl rfl rfl rfl rfl rfl (fun h6 => ?_) (fun h6 => ?_)
      · refine ExL.pures 1 rfl ?_
        refine ExL.nil ?_
        refine Ex.cond_t rfl ?_
        refine Ex.seq ?_
        refine Ex.drawSeqM rfl ?_
        refine ExD.take (i := 0) rfl (by kernel_rfl) (pureVal_ok rfl) ((List.Sublist.refl _)) rfl rfl rfl ?_
        refine ExD.take (i := 1) rfl (by kernel_rfl) (fr_load rfl rfl rfl rfl (CellO.blk (i := 0) rfl rfl)) ((List.Sublist.refl _)) rfl rfl rfl ?_
        refine ExD.cmp_neq (i := 2) rfl (by kernel_rfl) rfl rfl rfl ((List.Sublist.refl _)) rfl rfl rfl (fun h7 => ?_) (fun h7 => ?_)
        · refine ExD.take (i := 3) rfl (by kernel_rfl) (pureVal_ok rfl) ((List.Sublist.refl _)) rfl rfl rfl ?_
          refine ExD.take (i := 4) rfl (by kernel_rfl) (pureVal_ok rfl) ((List.Sublist.refl _)) rfl rfl rfl ?_
          refine ExD.take (i := 5) rfl (by kernel_rfl) (pureVal_ok rfl) ((List.Sublist.refl _)) rfl rfl rfl ?_
          refine ExD.take (i := 6) rfl (by kernel_rfl) (pureVal_ok rfl) ((List.Sublist.refl _)) rfl rfl rfl ?_
          refine ExD.take (i := 7) rfl (by kernel_rfl) (fr_load rfl rfl rfl rfl (CellO.blk (i := 1) rfl rfl)) ((List.Sublist.refl _)) rfl rfl rfl ?_
          refine ExD.take (i := 8) rfl (by kernel_rfl) (pureVal_ok rfl) ((List.Sublist.refl _)) rfl rfl rfl ?_
          refine ExD.take (i := 9) rfl (by kernel_rfl) (fr_load rfl rfl rfl rfl (CellO.blk (i := 0) rfl rfl)) ((List.Sublist.refl _)) rfl rfl rfl ?_
          refine ExD.op (i := 10) rfl (by kernel_rfl) rfl (op_ret rfl rfl rfl (c_hasValue d.stack (by assumption) _ _ (by omega) _) (Reads.get (Reads.row (i := 2) rfl)) rfl rfl (fun x8 hx8 => ⟨(List.Sublist.refl _), ?_⟩))
          refine ExD.take (i := 11) rfl (by kernel_rfl) (pureVal_ok rfl) ((List.Sublist.refl _)) rfl rfl rfl ?_
          refine ExD.take (i := 12) rfl (by kernel_rfl) (pureVal_ok rfl) ((List.Sublist.refl _)) rfl rfl rfl ?_
          refine ExD.done (by kernel_rfl) ?_
          refine Ex.cond rfl (fun hb9 => ?_) (fun hb9 => ?_)
          · replace hb9 := nd_t hb9
            refine Ex.regSeq (ExL.pures 2 rfl ?_)
            refine ExL.nil ?_
            refine Ex.ret ?_
            refine MutQ.mk () rfl (.tmp rfl (.tmp rfl .nil)) (t2 (vI (by first | (rw [do_1 (by assumption)]; first | done | rfl) | (rw [do_2 (by assumption)]; first | done | rfl) | (rw [do_3n (by assumption) (by omega)]; first | done | rfl) | (rw [do_3 (by assumption) (by omega)]; first | done | rfl) | (rw [do_4 (by assumption)]; first | done | rfl) | (rw [do_5n (by assumption) (by omega)]; first | done | rfl) | (rw [do_5 (by assumption) (by omega)]; first | done | rfl) | (rw [do_0 (by assumption) (by assumption) (by assumption) (by assumption) (by assumption)]; first | done | rfl))) (vI (by first | (rw [do_1 (by assumption)]; first | done | rfl) | (rw [do_2 (by assumption)]; first | done | rfl) | (rw [do_3n (by assumption) (by omega)]; first | done | rfl) | (rw [do_3 (by assumption) (by omega)]; first | done | rfl) | (rw [do_4 (by assumption)]; first | done | rfl) | (rw [do_5n (by assumption) (by omega)]; first | done | rfl) | (rw [do_5 (by assumption) (by omega)]; first | done | rfl) | (rw [do_0 (by assumption) (by assumption) (by assumption) (by assumption) (by assumption)]; first | done | rfl)))) 3 [1, 2] (by first | (rw [do_1 (by assumption)]; first | done | rfl) | (rw [do_2 (by assumption)]; first | done | rfl) | (rw [do_3n (by assumption) (by omega)]; first | done | rfl) | (rw [do_3 (by assumption) (by omega)]; first | done | rfl) | (rw [do_4 (by assumption)]; first | done | rfl) | (rw [do_5n (by assumption) (by omega)]; first | done | rfl) | (rw [do_5 (by assumption) (by omega)]; first | done | rfl) | (rw [do_0 (by assumption) (by assumption) (by assumption) (by assumption) (by assumption)]; first | done | rfl)) rfl (trivial)
          · replace hb9 := nd_f hb9
            refine Ex.skip ?_
            refine Ex.regSeq (ExL.pures 2 rfl ?_)
            refine ExL.free (fr_load rfl rfl rfl rfl (CellO.blk (i := 0) rfl rfl)) rfl rfl rfl ?_
            refine ExL.pures 2 rfl ?_
            refine ExL.op rfl (op_storeC (i := 1) rfl rfl rfl rfl rfl rfl rfl rfl rfl rfl ?_)
            refine ExL.nil ?_
            refine Ex.region (ExL.pures 2 rfl ?_)
            refine ExL.op rfl (op_ret rfl rfl rfl (c_shows (⟨d.stack, d.shows, a.n, d.stopped, d.tickets⟩ : VDev) (by assumption) (by assumption) (by assumption) _ _ _) (fun w hw => ⟨Reads.get (Reads.blk (i := 1) rfl) w hw, Reads.get (Reads.row (i := 2) rfl) w hw⟩) rfl rfl (fun x10 hx10 => ?_))
            refine ExL.pures 2 rfl ?_
            refine ExL.op rfl (op_storeC (i := 1) rfl rfl rfl rfl rfl rfl rfl rfl rfl rfl ?_)
            refine ExL.nil ?_
            refine Ex.regSeq (ExL.pures 2 rfl ?_)
            refine ExL.nil ?_
            refine Ex.ret ?_
            refine MutQ.mk () rfl (.tmp rfl (.tmp rfl .nil)) (t2 (vI (by first | (rw [do_1 (by assumption)]; first | done | rfl) | (rw [do_2 (by assumption)]; first | done | rfl) | (rw [do_3n (by assumption) (by omega)]; first | done | rfl) | (rw [do_3 (by assumption) (by omega)]; first | done | rfl) | (rw [do_4 (by assumption)]; first | done | rfl) | (rw [do_5n (by assumption) (by omega)]; first | done | rfl) | (rw [do_5 (by assumption) (by omega)]; first | done | rfl) | (rw [do_0 (by assumption) (by assumption) (by assumption) (by assumption) (by assumption)]; first | done | rfl))) (vI (by first | (rw [do_1 (by assumption)]; first | done | rfl) | (rw [do_2 (by assumption)]; first | done | rfl) | (rw [do_3n (by assumption) (by omega)]; first | done | rfl) | (rw [do_3 (by assumption) (by omega)]; first | done | rfl) | (rw [do_4 (by assumption)]; first | done | rfl) | (rw [do_5n (by assumption) (by omega)]; first | done | rfl) | (rw [do_5 (by assumption) (by omega)]; first | done | rfl) | (rw [do_0 (by assumption) (by assumption) (by assumption) (by assumption) (by assumption)]; first | done | rfl)))) 3 [1, 2] (by first | (rw [do_1 (by assumption)]; first | done | rfl) | (rw [do_2 (by assumption)]; first | done | rfl) | (rw [do_3n (by assumption) (by omega)]; first | done | rfl) | (rw [do_3 (by assumption) (by omega)]; first | done | rfl) | (rw [do_4 (by assumption)]; first | done | rfl) | (rw [do_5n (by assumption) (by omega)]; first | done | rfl) | (rw [do_5 (by assumption) (by omega)]; first | done | rfl) | (rw [do_0 (by assumption) (by assumption) (by assumption) (by assumption) (by assumption)]; first | done | rfl)) rfl (trivial)
        · refine ExD.take (i := 3) rfl (by kernel_rfl) (pureVal_ok rfl) ((List.Sublist.refl _)) rfl rfl rfl ?_
          refine ExD.pass (i := 4) rfl (by kernel_rfl) ((List.Sublist.refl _)) rfl rfl rfl ?_
          refine ExD.pass (i := 5) rfl (by kernel_rfl) ((List.Sublist.refl _)) rfl rfl rfl ?_
          refine ExD.pass (i := 6) rfl (by kernel_rfl) ((List.Sublist.refl _)) rfl rfl rfl ?_
          refine ExD.pass (i := 7) rfl (by kernel_rfl) ((List.Sublist.refl _)) rfl rfl rfl ?_
          refine ExD.pass (i := 8) rfl (by kernel_rfl) ((List.Sublist.refl _)) rfl rfl rfl ?_
          refine ExD.pass (i := 9) rfl (by kernel_rfl) ((List.Sublist.refl _)) rfl rfl rfl ?_
          refine ExD.pass (i := 10) rfl (by kernel_rfl) ((List.Sublist.refl _)) rfl rfl rfl ?_
          refine ExD.pass (i := 11) rfl (by kernel_rfl) ((List.Sublist.refl _)) rfl rfl rfl ?_
          refine ExD.take (i := 12) rfl (by kernel_rfl) (pureVal_ok rfl) ((List.Sublist.refl _)) rfl rfl rfl ?_
          refine ExD.done (by kernel_rfl) ?_
          refine Ex.cond_f rfl ?_
          refine Ex.skip ?_
          refine Ex.regSeq (ExL.pures 2 rfl ?_)
          refine ExL.free (fr_load rfl rfl rfl rfl (CellO.blk (i := 0) rfl rfl)) rfl rfl rfl ?_
          refine ExL.pures 2 rfl ?_
          refine ExL.op rfl (op_storeC (i := 1) rfl rfl rfl rfl rfl rfl rfl rfl rfl rfl ?_)
          refine ExL.nil ?_
          refine Ex.region (ExL.pures 2 rfl ?_)
          refine ExL.op rfl (op_ret rfl rfl rfl (c_shows (⟨d.stack, d.shows, a.n, d.stopped, d.tickets⟩ : VDev) (by assumption) (by assumption) (by assumption) _ _ _) (fun w hw => ⟨Reads.get (Reads.blk (i := 1) rfl) w hw, Reads.get (Reads.row (i := 2) rfl) w hw⟩) rfl rfl (fun x11 hx11 => ?_))
          refine ExL.pures 2 rfl ?_
          refine ExL.op rfl (op_storeC (i := 1) rfl rfl rfl rfl rfl rfl rfl rfl rfl rfl ?_)
          refine ExL.nil ?_
          refine Ex.regSeq (ExL.pures 2 rfl ?_)
          refine ExL.nil ?_
          refine Ex.ret ?_
          refine MutQ.mk () rfl (.tmp rfl (.tmp rfl .nil)) (t2 (vI (by first | (rw [do_1 (by assumption)]; first | done | rfl) | (rw [do_2 (by assumption)]; first | done | rfl) | (rw [do_3n (by assumption) (by omega)]; first | done | rfl) | (rw [do_3 (by assumption) (by omega)]; first | done | rfl) | (rw [do_4 (by assumption)]; first | done | rfl) | (rw [do_5n (by assumption) (by omega)]; first | done | rfl) | (rw [do_5 (by assumption) (by omega)]; first | done | rfl) | (rw [do_0 (by assumption) (by assumption) (by assumption) (by assumption) (by assumption)]; first | done | rfl))) (vI (by first | (rw [do_1 (by assumption)]; first | done | rfl) | (rw [do_2 (by assumption)]; first | done | rfl) | (rw [do_3n (by assumption) (by omega)]; first | done | rfl) | (rw [do_3 (by assumption) (by omega)]; first | done | rfl) | (rw [do_4 (by assumption)]; first | done | rfl) | (rw [do_5n (by assumption) (by omega)]; first | done | rfl) | (rw [do_5 (by assumption) (by omega)]; first | done | rfl) | (rw [do_0 (by assumption) (by assumption) (by assumption) (by assumption) (by assumption)]; first | done | rfl)))) 3 [1, 2] (by first | (rw [do_1 (by assumption)]; first | done | rfl) | (rw [do_2 (by assumption)]; first | done | rfl) | (rw [do_3n (by assumption) (by omega)]; first | done | rfl) | (rw [do_3 (by assumption) (by omega)]; first | done | rfl) | (rw [do_4 (by assumption)]; first | done | rfl) | (rw [do_5n (by assumption) (by omega)]; first | done | rfl) | (rw [do_5 (by assumption) (by omega)]; first | done | rfl) | (rw [do_0 (by assumption) (by assumption) (by assumption) (by assumption) (by assumption)]; first | done | rfl)) rfl (trivial)
      · refine ExL.pures 1 rfl ?_
        refine ExL.nil ?_
        refine Ex.cond_f rfl ?_
        refine Ex.regSeq (ExL.pures 0 rfl ?_)
        refine ExL.eql rfl rfl rfl rfl rfl rfl (fun h12 => ?_) (fun h12 => ?_)
        · refine ExL.pures 1 rfl ?_
          refine ExL.nil ?_
          refine Ex.cond_t rfl ?_
          refine Ex.regSeq (ExL.pures 1 rfl ?_)
          refine ExL.free (fr_build rfl rfl rfl rfl) rfl rfl rfl ?_
          refine ExL.pures 2 rfl ?_
          refine ExL.op rfl (op_storeC (i := 1) rfl rfl rfl rfl rfl rfl rfl rfl rfl rfl ?_)
          refine ExL.nil ?_
          refine Ex.region (ExL.pures 4 rfl ?_)
          refine ExL.free (fr_load rfl rfl rfl rfl (CellO.blk (i := 1) rfl rfl)) rfl rfl rfl ?_
          refine ExL.free (fr_eql rfl rfl rfl) rfl rfl rfl ?_
          refine ExL.pures 2 rfl ?_
          refine ExL.op rfl (op_storeC (i := 1) rfl rfl rfl rfl rfl rfl rfl rfl rfl rfl ?_)
          refine ExL.nil ?_
          refine Ex.regSeq (ExL.pures 2 rfl ?_)
          refine ExL.nil ?_
          refine Ex.ret ?_
          refine MutQ.mk () rfl (.tmp rfl (.tmp rfl .nil)) (t2 (vI (by first | (rw [do_1 (by assumption)]; first | done | rfl) | (rw [do_2 (by assumption)]; first | done | rfl) | (rw [do_3n (by assumption) (by omega)]; first | done | rfl) | (rw [do_3 (by assumption) (by omega)]; first | done | rfl) | (rw [do_4 (by assumption)]; first | done | rfl) | (rw [do_5n (by assumption) (by omega)]; first | done | rfl) | (rw [do_5 (by assumption) (by omega)]; first | done | rfl) | (rw [do_0 (by assumption) (by assumption) (by assumption) (by assumption) (by assumption)]; first | done | rfl))) (vI (by first | (rw [do_1 (by assumption)]; first | done | rfl) | (rw [do_2 (by assumption)]; first | done | rfl) | (rw [do_3n (by assumption) (by omega)]; first | done | rfl) | (rw [do_3 (by assumption) (by omega)]; first | done | rfl) | (rw [do_4 (by assumption)]; first | done | rfl) | (rw [do_5n (by assumption) (by omega)]; first | done | rfl) | (rw [do_5 (by assumption) (by omega)]; first | done | rfl) | (rw [do_0 (by assumption) (by assumption) (by assumption) (by assumption) (by assumption)]; first | done | rfl)))) 3 [1, 2] (by first | (rw [do_1 (by assumption)]; first | done | rfl) | (rw [do_2 (by assumption)]; first | done | rfl) | (rw [do_3n (by assumption) (by omega)]; first | done | rfl) | (rw [do_3 (by assumption) (by omega)]; first | done | rfl) | (rw [do_4 (by assumption)]; first | done | rfl) | (rw [do_5n (by assumption) (by omega)]; first | done | rfl) | (rw [do_5 (by assumption) (by omega)]; first | done | rfl) | (rw [do_0 (by assumption) (by assumption) (by assumption) (by assumption) (by assumption)]; first | done | rfl)) rfl (trivial)
        · refine ExL.pures 1 rfl ?_
          refine ExL.nil ?_
          refine Ex.cond_f rfl ?_
          refine Ex.regSeq (ExL.pures 0 rfl ?_)
          refine ExL.eql rfl rfl rfl rfl rfl rfl (fun h13 => ?_) (fun h13 => ?_)
          · refine ExL.pures 1 rfl ?_
            refine ExL.nil ?_
            refine Ex.cond_t rfl ?_
            refine Ex.seq ?_
            refine Ex.regSeq (ExL.pures 3 rfl ?_)
            refine ExL.free (fr_load rfl rfl rfl rfl (CellO.blk (i := 1) rfl rfl)) rfl rfl rfl ?_
            refine ExL.eql rfl rfl rfl rfl rfl rfl (fun h14 => ?_) (fun h14 => ?_)
            · refine ExL.nil ?_
              refine Ex.cond_t rfl ?_
              refine Ex.regSeq (ExL.pures 2 rfl ?_)
              refine ExL.nil ?_
              refine Ex.ret ?_
              refine MutQ.mk () rfl (.tmp rfl (.tmp rfl .nil)) (t2 (vI (by first | (rw [do_1 (by assumption)]; first | done | rfl) | (rw [do_2 (by assumption)]; first | done | rfl) | (rw [do_3n (by assumption) (by omega)]; first | done | rfl) | (rw [do_3 (by assumption) (by omega)]; first | done | rfl) | (rw [do_4 (by assumption)]; first | done | rfl) | (rw [do_5n (by assumption) (by omega)]; first | done | rfl) | (rw [do_5 (by assumption) (by omega)]; first | done | rfl) | (rw [do_0 (by assumption) (by assumption) (by assumption) (by assumption) (by assumption)]; first | done | rfl))) (vI (by first | (rw [do_1 (by assumption)]; first | done | rfl) | (rw [do_2 (by assumption)]; first | done | rfl) | (rw [do_3n (by assumption) (by omega)]; first | done | rfl) | (rw [do_3 (by assumption) (by omega)]; first | done | rfl) | (rw [do_4 (by assumption)]; first | done | rfl) | (rw [do_5n (by assumption) (by omega)]; first | done | rfl) | (rw [do_5 (by assumption) (by omega)]; first | done | rfl) | (rw [do_0 (by assumption) (by assumption) (by assumption) (by assumption) (by assumption)]; first | done | rfl)))) 3 [1, 2] (by first | (rw [do_1 (by assumption)]; first | done | rfl) | (rw [do_2 (by assumption)]; first | done | rfl) | (rw [do_3n (by assumption) (by omega)]; first | done | rfl) | (rw [do_3 (by assumption) (by omega)]; first | done | rfl) | (rw [do_4 (by assumption)]; first | done | rfl) | (rw [do_5n (by assumption) (by omega)]; first | done | rfl) | (rw [do_5 (by assumption) (by omega)]; first | done | rfl) | (rw [do_0 (by assumption) (by assumption) (by assumption) (by assumption) (by assumption)]; first | done | rfl)) rfl (trivial)
            · refine ExL.nil ?_
              refine Ex.cond_f rfl ?_
              refine Ex.skip ?_
              refine Ex.region (ExL.pures 3 rfl ?_)
              refine ExL.free (fr_load rfl rfl rfl rfl (CellO.blk (i := 1) rfl rfl)) rfl rfl rfl ?_
              refine ExL.free (by first | exact fr_add64 rfl rfl rfl (by omega) | exact fr_add rfl rfl rfl) rfl rfl rfl ?_
              refine ExL.pures 2 rfl ?_
              refine ExL.op rfl (op_storeC (i := 1) rfl rfl rfl rfl rfl rfl rfl rfl rfl rfl ?_)
              refine ExL.nil ?_
              refine Ex.regSeq (ExL.pures 2 rfl ?_)
              refine ExL.nil ?_
              refine Ex.ret ?_
              refine MutQ.mk () rfl (.tmp rfl (.tmp rfl .nil)) (t2 (vI (by first | (rw [do_1 (by assumption)]; first | done | rfl) | (rw [do_2 (by assumption)]; first | done | rfl) | (rw [do_3n (by assumption) (by omega)]; first | done | rfl) | (rw [do_3 (by assumption) (by omega)]; first | done | rfl) | (rw [do_4 (by assumption)]; first | done | rfl) | (rw [do_5n (by assumption) (by omega)]; first | done | rfl) | (rw [do_5 (by assumption) (by omega)]; first | done | rfl) | (rw [do_0 (by assumption) (by assumption) (by assumption) (by assumption) (by assumption)]; first | done | rfl))) (vI (by first | (rw [do_1 (by assumption)]; first | done | rfl) | (rw [do_2 (by assumption)]; first | done | rfl) | (rw [do_3n (by assumption) (by omega)]; first | done | rfl) | (rw [do_3 (by assumption) (by omega)]; first | done | rfl) | (rw [do_4 (by assumption)]; first | done | rfl) | (rw [do_5n (by assumption) (by omega)]; first | done | rfl) | (rw [do_5 (by assumption) (by omega)]; first | done | rfl) | (rw [do_0 (by assumption) (by assumption) (by assumption) (by assumption) (by assumption)]; first | done | rfl)))) 3 [1, 2] (by first | (rw [do_1 (by assumption)]; first | done | rfl) | (rw [do_2 (by assumption)]; first | done | rfl) | (rw [do_3n (by assumption) (by omega)]; first | done | rfl) | (rw [do_3 (by assumption) (by omega)]; first | done | rfl) | (rw [do_4 (by assumption)]; first | done | rfl) | (rw [do_5n (by assumption) (by omega)]; first | done | rfl) | (rw [do_5 (by assumption) (by omega)]; first | done | rfl) | (rw [do_0 (by assumption) (by assumption) (by assumption) (by assumption) (by assumption)]; first | done | rfl)) rfl (trivial)
          · refine ExL.pures 1 rfl ?_
            refine ExL.nil ?_
            refine Ex.cond_f rfl ?_
            refine Ex.skip ?_
            refine Ex.regSeq (ExL.pures 2 rfl ?_)
            refine ExL.nil ?_
            refine Ex.ret ?_
            refine MutQ.mk () rfl (.tmp rfl (.tmp rfl .nil)) (t2 (vI (by first | (rw [do_1 (by assumption)]; first | done | rfl) | (rw [do_2 (by assumption)]; first | done | rfl) | (rw [do_3n (by assumption) (by omega)]; first | done | rfl) | (rw [do_3 (by assumption) (by omega)]; first | done | rfl) | (rw [do_4 (by assumption)]; first | done | rfl) | (rw [do_5n (by assumption) (by omega)]; first | done | rfl) | (rw [do_5 (by assumption) (by omega)]; first | done | rfl) | (rw [do_0 (by assumption) (by assumption) (by assumption) (by assumption) (by assumption)]; first | done | rfl))) (vI (by first | (rw [do_1 (by assumption)]; first | done | rfl) | (rw [do_2 (by assumption)]; first | done | rfl) | (rw [do_3n (by assumption) (by omega)]; first | done | rfl) | (rw [do_3 (by assumption) (by omega)]; first | done | rfl) | (rw [do_4 (by assumption)]; first | done | rfl) | (rw [do_5n (by assumption) (by omega)]; first | done | rfl) | (rw [do_5 (by assumption) (by omega)]; first | done | rfl) | (rw [do_0 (by assumption) (by assumption) (by assumption) (by assumption) (by assumption)]; first | done | rfl)))) 3 [1, 2] (by first | (rw [do_1 (by assumption)]; first | done | rfl) | (rw [do_2 (by assumption)]; first | done | rfl) | (rw [do_3n (by assumption) (by omega)]; first | done | rfl) | (rw [do_3 (by assumption) (by omega)]; first | done | rfl) | (rw [do_4 (by assumption)]; first | done | rfl) | (rw [do_5n (by assumption) (by omega)]; first | done | rfl) | (rw [do_5 (by assumption) (by omega)]; first | done | rfl) | (rw [do_0 (by assumption) (by assumption) (by assumption) (by assumption) (by assumption)]; first | done | rfl)) rfl (trivial)
theorem e_53 : Enters Tryz.prog 53 := Enters.of Tryz.func53 rfl
theorem c_l07Do (d : VDev) (hk : OkDev d) (hv : validDev d = true) (Ad : Option Addr) (cd : Nat) (b : Nat) (a : VAct) (hact : validAct a = true) : Mut Tryz.prog 53 [.pointer (some ⟨b, 0, none⟩), .agg (encA a).toArray] [.blk b (encV Ad cd d) 28, .row (.slice Ad d.stack.length cd) 5 1 d.stack.length (d.stack.flatMap (eI .u8))] (fun base w0 F => True) (fun x : Unit => .tuple #[.int .i64 (doV d a).2.1, .int .i64 (doV d a).2.2]) (fun x => [.blk b (encV Ad cd (doV d a).1) 28, .row (.slice Ad d.stack.length cd) 5 1 d.stack.length (d.stack.flatMap (eI .u8))]) (fun x => True) := by
  refine Mut.of e_53 Tryz.func53 rfl Tryz.ntmps53 rfl rfl (fun base w0 F hfr => ?_)
  have hkk := hk
  have han := act_n hact
  obtain ⟨hl, hu, ha, hpp, htt⟩ := hk
  have hO := devOk ha hv
  have hvs : validStack d.stack = true := by unfold validDev at hv; rw [decide_eq_true_iff] at hv; exact hv.1
  have hvd := hO.vd
  have hm0 : maxLen = 9223372036854775807 := rfl
  have hz := sizeS hO
  have hle := hO.stk.le
  have hps := hO.stk.pos
  have hlt : 0 ≤ val d.stack d.shows.l ∧ val d.stack d.shows.l < prod d.stack := hO.v_lt
  have hpr := hO.preset
  have htk := hO.tick
  refine Ex.regSeq (ExL.pures 0 rfl ?_)
  refine ExL.op rfl (op_box rfl rfl rfl rfl rfl (fun b1 => ?_))
  refine ExL.pures 2 rfl ?_
  refine ExL.nil ?_
  refine Ex.seq ?_
  refine Ex.regSeq (ExL.pures 1 rfl ?_)
  refine ExL.free (fr_load rfl rfl rfl rfl (CellO.blk (i := 0) rfl rfl)) rfl rfl rfl ?_
  refine ExL.nil ?_
  refine Ex.block ?_
  refine Ex.regSeq (ExL.pures 0 rfl ?_)
  refine ExL.eql rfl rfl rfl rfl rfl rfl (fun h2 => ?_) (fun h2 => ?_)
  · refine ExL.pures 1 rfl ?_
    refine ExL.nil ?_
    refine Ex.cond_t rfl ?_
    refine Ex.regSeq (ExL.pures 2 rfl ?_)
    refine ExL.free (fr_load rfl rfl rfl rfl (CellO.blk (i := 0) rfl rfl)) rfl rfl rfl ?_
    refine ExL.op rfl (op_mut rfl rfl rfl (c_l07Count_f d (by assumption) (by assumption) _ _ _ _ (by omega)) (perm_lt (i := 1) (j := 2) rfl rfl rfl) (trivial) rfl rfl (fun x3 hx3 => ?_))
    refine ExL.pures 2 rfl ?_
    refine ExL.nil ?_
    refine Ex.ret ?_
    refine MutQ.mk () rfl (.tmp rfl (.tmp rfl .nil)) (t2 (vI (by first | (rw [do_1 (by assumption)]; first | done | rfl) | (rw [do_2 (by assumption)]; first | done | rfl) | (rw [do_3n (by assumption) (by omega)]; first | done | rfl) | (rw [do_3 (by assumption) (by omega)]; first | done | rfl) | (rw [do_4 (by assumption)]; first | done | rfl) | (rw [do_5n (by assumption) (by omega)]; first | done | rfl) | (rw [do_5 (by assumption) (by omega)]; first | done | rfl) | (rw [do_0 (by assumption) (by assumption) (by assumption) (by assumption) (by assumption)]; first | done | rfl))) (vI (by first | (rw [do_1 (by assumption)]; first | done | rfl) | (rw [do_2 (by assumption)]; first | done | rfl) | (rw [do_3n (by assumption) (by omega)]; first | done | rfl) | (rw [do_3 (by assumption) (by omega)]; first | done | rfl) | (rw [do_4 (by assumption)]; first | done | rfl) | (rw [do_5n (by assumption) (by omega)]; first | done | rfl) | (rw [do_5 (by assumption) (by omega)]; first | done | rfl) | (rw [do_0 (by assumption) (by assumption) (by assumption) (by assumption) (by assumption)]; first | done | rfl)))) 3 [0, 1] (by first | (rw [do_1 (by assumption)]; first | done | rfl) | (rw [do_2 (by assumption)]; first | done | rfl) | (rw [do_3n (by assumption) (by omega)]; first | done | rfl) | (rw [do_3 (by assumption) (by omega)]; first | done | rfl) | (rw [do_4 (by assumption)]; first | done | rfl) | (rw [do_5n (by assumption) (by omega)]; first | done | rfl) | (rw [do_5 (by assumption) (by omega)]; first | done | rfl) | (rw [do_0 (by assumption) (by assumption) (by assumption) (by assumption) (by assumption)]; first | done | rfl)) rfl (trivial)
  · refine ExL.pures 1 rfl ?_
    refine ExL.nil ?_
    refine Ex.cond_f rfl ?_
    refine Ex.regSeq (ExL.pures 0 rfl ?_)
    refine ExL.eql rfl rfl rfl rfl rfl rfl (fun h4 => ?_) (fun h4 => ?_)
    · refine ExL.pures 1 rfl ?_
      refine ExL.nil ?_
      refine Ex.cond_t rfl ?_
      refine Ex.regSeq (ExL.pures 2 rfl ?_)
      refine ExL.free (fr_load rfl rfl rfl rfl (CellO.blk (i := 0) rfl rfl)) rfl rfl rfl ?_
      refine ExL.op rfl (op_mut rfl rfl rfl (c_l07Count_t d (by assumption) (by assumption) _ _ _ _ (by omega)) (perm_lt (i := 1) (j := 2) rfl rfl rfl) (trivial) rfl rfl (fun x5 hx5 => ?_))
      refine ExL.pures 2 rfl ?_
      refine ExL.nil ?_
      refine Ex.ret ?_
      refine MutQ.mk () rfl (.tmp rfl (.tmp rfl .nil)) (t2 (vI (by first | (rw [do_1 (by assumption)]; first | done | rfl) | (rw [do_2 (by assumption)]; first | done | rfl) | (rw [do_3n (by assumption) (by omega)]; first | done | rfl) | (rw [do_3 (by assumption) (by omega)]; first | done | rfl) | (rw [do_4 (by assumption)]; first | done | rfl) | (rw [do_5n (by assumption) (by omega)]; first | done | rfl) | (rw [do_5 (by assumption) (by omega)]; first | done | rfl) | (rw [do_0 (by assumption) (by assumption) (by assumption) (by assumption) (by assumption)]; first | done | rfl))) (vI (by first | (rw [do_1 (by assumption)]; first | done | rfl) | (rw [do_2 (by assumption)]; first | done | rfl) | (rw [do_3n (by assumption) (by omega)]; first | done | rfl) | (rw [do_3 (by assumption) (by omega)]; first | done | rfl) | (rw [do_4 (by assumption)]; first | done | rfl) | (rw [do_5n (by assumption) (by omega)]; first | done | rfl) | (rw [do_5 (by assumption) (by omega)]; first | done | rfl) | (rw [do_0 (by assumption) (by assumption) (by assumption) (by assumption) (by assumption)]; first | done | rfl)))) 3 [0, 1] (by first | (rw [do_1 (by assumption)]; first | done | rfl) | (rw [do_2 (by assumption)]; first | done | rfl) | (rw [do_3n (by assumption) (by omega)]; first | done | rfl) | (rw [do_3 (by assumption) (by omega)]; first | done | rfl) | (rw [do_4 (by assumption)]; first | done | rfl) | (rw [do_5n (by assumption) (by omega)]; first | done | rfl) | (rw [do_5 (by assumption) (by omega)]; first | done | rfl) | (rw [do_0 (by assumption) (by assumption) (by assumption) (by assumption) (by assumption)]; first | done | rfl)) rfl (trivial)
    · refine ExL.pures 1 rfl ?_
      refine ExL.nil ?_
      refine Ex.cond_f rfl ?_
      refine Ex.regSeq (ExL.pures 0 rfl ?_)
      refine ExL.eql rfl rfl rfl rfl rfl rfl (fun h6 => ?_) (fun h6 => ?_)
      · refine ExL.pures 1 rfl ?_
        refine ExL.nil ?_
        refine Ex.cond_t rfl ?_
        refine Ex.seq ?_
        refine Ex.drawSeqM rfl ?_
        refine ExD.take (i := 0) rfl (by kernel_rfl) (pureVal_ok rfl) ((List.Sublist.refl _)) rfl rfl rfl ?_
        refine ExD.take (i := 1) rfl (by kernel_rfl) (fr_load rfl rfl rfl rfl (CellO.blk (i := 0) rfl rfl)) ((List.Sublist.refl _)) rfl rfl rfl ?_
        refine ExD.take (i := 2) rfl (by kernel_rfl) (pureVal_ok rfl) ((List.Sublist.refl _)) rfl rfl rfl ?_
        refine ExD.take (i := 3) rfl (by kernel_rfl) (pureVal_ok rfl) ((List.Sublist.refl _)) rfl rfl rfl ?_
        refine ExD.take (i := 4) rfl (by kernel_rfl) (pureVal_ok rfl) ((List.Sublist.refl _)) rfl rfl rfl ?_
        refine ExD.take (i := 5) rfl (by kernel_rfl) (fr_load rfl rfl rfl rfl (CellO.blk (i := 1) rfl rfl)) ((List.Sublist.refl _)) rfl rfl rfl ?_
        refine ExD.op (i := 6) rfl (by kernel_rfl) rfl (op_ret rfl rfl rfl (c_l01Size _ (by assumption) _ _ (by first | assumption | omega | (unfold maxLen; omega))) (Reads.get (Reads.row (i := 2) rfl)) rfl rfl (fun x7 hx7 => ⟨(List.Sublist.refl _), ?_⟩))
        refine ExD.cmp_geq (i := 7) rfl (by kernel_rfl) rfl rfl rfl ((List.Sublist.refl _)) rfl rfl rfl (fun h8 => ?_) (fun h8 => ?_)
        · refine ExD.done (by kernel_rfl) ?_
          refine Ex.cond_t rfl ?_
          refine Ex.regSeq (ExL.pures 2 rfl ?_)
          refine ExL.nil ?_
          refine Ex.ret ?_
          refine MutQ.mk () rfl (.tmp rfl (.tmp rfl .nil)) (t2 (vI (by first | (rw [do_1 (by assumption)]; first | done | rfl) | (rw [do_2 (by assumption)]; first | done | rfl) | (rw [do_3n (by assumption) (by omega)]; first | done | rfl) | (rw [do_3 (by assumption) (by omega)]; first | done | rfl) | (rw [do_4 (by assumption)]; first | done | rfl) | (rw [do_5n (by assumption) (by omega)]; first | done | rfl) | (rw [do_5 (by assumption) (by omega)]; first | done | rfl) | (rw [do_0 (by assumption) (by assumption) (by assumption) (by assumption) (by assumption)]; first | done | rfl))) (vI (by first | (rw [do_1 (by assumption)]; first | done | rfl) | (rw [do_2 (by assumption)]; first | done | rfl) | (rw [do_3n (by assumption) (by omega)]; first | done | rfl) | (rw [do_3 (by assumption) (by omega)]; first | done | rfl) | (rw [do_4 (by assumption)]; first | done | rfl) | (rw [do_5n (by assumption) (by omega)]; first | done | rfl) | (rw [do_5 (by assumption) (by omega)]; first | done | rfl) | (rw [do_0 (by assumption) (by assumption) (by assumption) (by assumption) (by assumption)]; first | done | rfl)))) 3 [1, 2] (by first | (rw [do_1 (by assumption)]; first | done | rfl) | (rw [do_2 (by assumption)]; first | done | rfl) | (rw [do_3n (by assumption) (by omega)]; first | done | rfl) | (rw [do_3 (by assumption) (by omega)]; first | done | rfl) | (rw [do_4 (by assumption)]; first | done | rfl) | (rw [do_5n (by assumption) (by omega)]; first | done | rfl) | (rw [do_5 (by assumption) (by omega)]; first | done | rfl) | (rw [do_0 (by assumption) (by assumption) (by assumption) (by assumption) (by assumption)]; first | done | rfl)) rfl (trivial)
        · refine ExD.done (by kernel_rfl) ?_
          refine Ex.cond_f rfl ?_
          refine Ex.skip ?_
          refine Ex.regSeq (ExL.pures 2 rfl ?_)
          refine ExL.free (fr_load rfl rfl rfl rfl (CellO.blk (i := 0) rfl rfl)) rfl rfl rfl ?_
          refine ExL.pures 2 rfl ?_
          refine ExL.op rfl (op_storeC (i := 1) rfl rfl rfl rfl rfl rfl rfl rfl rfl rfl ?_)
          refine ExL.nil ?_
          refine Ex.drawI [0, 2] rfl rfl ?_
          refine ExD.take (i := 0) rfl (by kernel_rfl) (pureVal_ok rfl) ((List.Sublist.cons_cons _ (List.Sublist.cons _ (List.Sublist.cons_cons _ (List.nil_sublist _))))) rfl rfl rfl ?_
          refine ExD.take (i := 1) rfl (by kernel_rfl) (pureVal_ok rfl) ((List.Sublist.cons_cons _ (List.Sublist.cons _ (List.Sublist.cons_cons _ (List.nil_sublist _))))) rfl rfl rfl ?_
          refine ExD.take (i := 2) rfl (by kernel_rfl) (fr_load rfl rfl rfl rfl (CellO.blk (i := 0) rfl rfl)) ((List.Sublist.cons_cons _ (List.Sublist.cons _ (List.Sublist.cons_cons _ (List.nil_sublist _))))) rfl rfl rfl ?_
          refine ExD.take (i := 3) rfl (by kernel_rfl) (pureVal_ok rfl) ((List.Sublist.cons_cons _ (List.Sublist.cons _ (List.Sublist.cons_cons _ (List.nil_sublist _))))) rfl rfl rfl ?_
          refine ExD.take (i := 4) rfl (by kernel_rfl) (pureVal_ok rfl) ((List.Sublist.cons_cons _ (List.Sublist.cons _ (List.Sublist.cons_cons _ (List.nil_sublist _))))) rfl rfl rfl ?_
          refine ExD.take (i := 5) rfl (by kernel_rfl) (pureVal_ok rfl) ((List.Sublist.cons_cons _ (List.Sublist.cons _ (List.Sublist.cons_cons _ (List.nil_sublist _))))) rfl rfl rfl ?_
          refine ExD.take (i := 7) rfl (by kernel_rfl) (pureVal_ok rfl) ((List.Sublist.cons_cons _ (List.Sublist.cons _ (List.Sublist.cons_cons _ (List.nil_sublist _))))) rfl rfl rfl ?_
          refine ExD.take (i := 8) rfl (by kernel_rfl) (pureVal_ok rfl) ((List.Sublist.cons_cons _ (List.Sublist.cons _ (List.Sublist.cons_cons _ (List.nil_sublist _))))) rfl rfl rfl ?_
          refine ExD.take (i := 9) rfl (by kernel_rfl) (pureVal_ok rfl) ((List.Sublist.cons_cons _ (List.Sublist.cons _ (List.Sublist.cons_cons _ (List.nil_sublist _))))) rfl rfl rfl ?_
          refine ExD.two (i := 6) (j := 10) rfl rfl (by kernel_rfl) (by kernel_rfl) (by kernel_rfl) rfl (List.Sublist.cons_cons _ (List.Sublist.cons _ (List.Sublist.cons_cons _ (List.nil_sublist _)))) rfl rfl rfl rfl rfl rfl rfl rfl rfl (fr_load rfl rfl rfl rfl (CellO.blk (i := 1) rfl rfl)) (fr_loadN rfl rfl rfl rfl rfl (SegO.part (i := 1) 8 rfl)) (fr_load rfl rfl rfl rfl (CellO.blk (i := 1) rfl rfl)) (fr_loadN rfl rfl rfl rfl rfl (SegO.part (i := 1) 8 rfl)) ?_
          refine ExD.op (i := 11) rfl (by kernel_rfl) rfl (op_ret rfl rfl rfl (c_l01Value d.stack (by first | assumption | simp_all) _ _ d.shows (by assumption) (by first | assumption | simp_all)) (Reads.get (Reads.row (i := 2) rfl)) rfl rfl (fun x9 hx9 => ⟨(List.Sublist.cons_cons _ (List.Sublist.cons _ (List.Sublist.cons_cons _ (List.nil_sublist _)))), ?_⟩))
          refine ExD.take (i := 12) rfl (by kernel_rfl) (fr_eql rfl rfl rfl) ((List.Sublist.cons_cons _ (List.Sublist.cons _ (List.Sublist.cons_cons _ (List.nil_sublist _))))) rfl rfl rfl ?_
          refine ExD.take (i := 13) rfl (by kernel_rfl) (pureVal_ok rfl) ((List.Sublist.cons_cons _ (List.Sublist.cons _ (List.Sublist.cons_cons _ (List.nil_sublist _))))) rfl rfl rfl ?_
          refine ExD.take (i := 14) rfl (by kernel_rfl) (pureVal_ok rfl) ((List.Sublist.cons_cons _ (List.Sublist.cons _ (List.Sublist.cons_cons _ (List.nil_sublist _))))) rfl rfl rfl ?_
          refine ExD.op (i := 15) rfl (by kernel_rfl) rfl (op_storeC (i := 1) rfl rfl rfl rfl rfl rfl rfl rfl rfl rfl ⟨(List.Sublist.cons_cons _ (List.Sublist.cons _ (List.Sublist.cons_cons _ (List.nil_sublist _)))), ?_⟩)
          refine ExD.done (by kernel_rfl) ?_
          refine Ex.regSeq (ExL.pures 2 rfl ?_)
          refine ExL.nil ?_
          refine Ex.ret ?_
          refine MutQ.mk () rfl (.tmp rfl (.tmp rfl .nil)) (t2 (vI (by first | (rw [do_1 (by assumption)]; first | done | rfl) | (rw [do_2 (by assumption)]; first | done | rfl) | (rw [do_3n (by assumption) (by omega)]; first | done | rfl) | (rw [do_3 (by assumption) (by omega)]; first | done | rfl) | (rw [do_4 (by assumption)]; first | done | rfl) | (rw [do_5n (by assumption) (by omega)]; first | done | rfl) | (rw [do_5 (by assumption) (by omega)]; first | done | rfl) | (rw [do_0 (by assumption) (by assumption) (by assumption) (by assumption) (by assumption)]; first | done | rfl))) (vI (by first | (rw [do_1 (by assumption)]; first | done | rfl) | (rw [do_2 (by assumption)]; first | done | rfl) | (rw [do_3n (by assumption) (by omega)]; first | done | rfl) | (rw [do_3 (by assumption) (by omega)]; first | done | rfl) | (rw [do_4 (by assumption)]; first | done | rfl) | (rw [do_5n (by assumption) (by omega)]; first | done | rfl) | (rw [do_5 (by assumption) (by omega)]; first | done | rfl) | (rw [do_0 (by assumption) (by assumption) (by assumption) (by assumption) (by assumption)]; first | done | rfl)))) 3 [1, 2] (by first | (rw [do_1 (by assumption)]; first | done | rfl) | (rw [do_2 (by assumption)]; first | done | rfl) | (rw [do_3n (by assumption) (by omega)]; first | done | rfl) | (rw [do_3 (by assumption) (by omega)]; first | done | rfl) | (rw [do_4 (by assumption)]; first | done | rfl) | (rw [do_5n (by assumption) (by omega)]; first | done | rfl) | (rw [do_5 (by assumption) (by omega)]; first | done | rfl) | (rw [do_0 (by assumption) (by assumption) (by assumption) (by assumption) (by assumption)]; first | done | rfl)) rfl (trivial)
      · refine ExL.pures 1 rfl ?_
        refine ExL.nil ?_
        refine Ex.cond_f rfl ?_
        refine Ex.regSeq (ExL.pures 0 rfl ?_)
        refine ExL.eql rfl rfl rfl rfl rfl rfl (fun h10 => ?_) (fun h10 => ?_)
        · refine ExL.pures 1 rfl ?_
          refine ExL.nil ?_
          refine Ex.cond_t rfl ?_
          refine Ex.regSeq (ExL.pures 1 rfl ?_)
          refine ExL.free (fr_build rfl rfl rfl rfl) rfl rfl rfl ?_
          refine ExL.pures 2 rfl ?_
          refine ExL.op rfl (op_storeC (i := 1) rfl rfl rfl rfl rfl rfl rfl rfl rfl rfl ?_)
          refine ExL.nil ?_
          refine Ex.region (ExL.pures 4 rfl ?_)
          refine ExL.free (fr_load rfl rfl rfl rfl (CellO.blk (i := 1) rfl rfl)) rfl rfl rfl ?_
          refine ExL.free (fr_eql rfl rfl rfl) rfl rfl rfl ?_
          refine ExL.pures 2 rfl ?_
          refine ExL.op rfl (op_storeC (i := 1) rfl rfl rfl rfl rfl rfl rfl rfl rfl rfl ?_)
          refine ExL.nil ?_
          refine Ex.regSeq (ExL.pures 2 rfl ?_)
          refine ExL.nil ?_
          refine Ex.ret ?_
          refine MutQ.mk () rfl (.tmp rfl (.tmp rfl .nil)) (t2 (vI (by first | (rw [do_1 (by assumption)]; first | done | rfl) | (rw [do_2 (by assumption)]; first | done | rfl) | (rw [do_3n (by assumption) (by omega)]; first | done | rfl) | (rw [do_3 (by assumption) (by omega)]; first | done | rfl) | (rw [do_4 (by assumption)]; first | done | rfl) | (rw [do_5n (by assumption) (by omega)]; first | done | rfl) | (rw [do_5 (by assumption) (by omega)]; first | done | rfl) | (rw [do_0 (by assumption) (by assumption) (by assumption) (by assumption) (by assumption)]; first | done | rfl))) (vI (by first | (rw [do_1 (by assumption)]; first | done | rfl) | (rw [do_2 (by assumption)]; first | done | rfl) | (rw [do_3n (by assumption) (by omega)]; first | done | rfl) | (rw [do_3 (by assumption) (by omega)]; first | done | rfl) | (rw [do_4 (by assumption)]; first | done | rfl) | (rw [do_5n (by assumption) (by omega)]; first | done | rfl) | (rw [do_5 (by assumption) (by omega)]; first | done | rfl) | (rw [do_0 (by assumption) (by assumption) (by assumption) (by assumption) (by assumption)]; first | done | rfl)))) 3 [1, 2] (by first | (rw [do_1 (by assumption)]; first | done | rfl) | (rw [do_2 (by assumption)]; first | done | rfl) | (rw [do_3n (by assumption) (by omega)]; first | done | rfl) | (rw [do_3 (by assumption) (by omega)]; first | done | rfl) | (rw [do_4 (by assumption)]; first | done | rfl) | (rw [do_5n (by assumption) (by omega)]; first | done | rfl) | (rw [do_5 (by assumption) (by omega)]; first | done | rfl) | (rw [do_0 (by assumption) (by assumption) (by assumption) (by assumption) (by assumption)]; first | done | rfl)) rfl (trivial)
        · refine ExL.pures 1 rfl ?_
          refine ExL.nil ?_
          refine Ex.cond_f rfl ?_
          refine Ex.regSeq (ExL.pures 0 rfl ?_)
          refine ExL.eql rfl rfl rfl rfl rfl rfl (fun h11 => ?_) (fun h11 => ?_)
          · refine ExL.pures 1 rfl ?_
            refine ExL.nil ?_
            refine Ex.cond_t rfl ?_
            refine Ex.seq ?_
            refine Ex.regSeq (ExL.pures 3 rfl ?_)
            refine ExL.free (fr_load rfl rfl rfl rfl (CellO.blk (i := 1) rfl rfl)) rfl rfl rfl ?_
            refine ExL.geq rfl rfl rfl rfl rfl rfl (fun h12 => ?_) (fun h12 => ?_)
            · refine ExL.nil ?_
              refine Ex.cond_t rfl ?_
              refine Ex.regSeq (ExL.pures 2 rfl ?_)
              refine ExL.nil ?_
              refine Ex.ret ?_
              refine MutQ.mk () rfl (.tmp rfl (.tmp rfl .nil)) (t2 (vI (by first | (rw [do_1 (by assumption)]; first | done | rfl) | (rw [do_2 (by assumption)]; first | done | rfl) | (rw [do_3n (by assumption) (by omega)]; first | done | rfl) | (rw [do_3 (by assumption) (by omega)]; first | done | rfl) | (rw [do_4 (by assumption)]; first | done | rfl) | (rw [do_5n (by assumption) (by omega)]; first | done | rfl) | (rw [do_5 (by assumption) (by omega)]; first | done | rfl) | (rw [do_0 (by assumption) (by assumption) (by assumption) (by assumption) (by assumption)]; first | done | rfl))) (vI (by first | (rw [do_1 (by assumption)]; first | done | rfl) | (rw [do_2 (by assumption)]; first | done | rfl) | (rw [do_3n (by assumption) (by omega)]; first | done | rfl) | (rw [do_3 (by assumption) (by omega)]; first | done | rfl) | (rw [do_4 (by assumption)]; first | done | rfl) | (rw [do_5n (by assumption) (by omega)]; first | done | rfl) | (rw [do_5 (by assumption) (by omega)]; first | done | rfl) | (rw [do_0 (by assumption) (by assumption) (by assumption) (by assumption) (by assumption)]; first | done | rfl)))) 3 [1, 2] (by first | (rw [do_1 (by assumption)]; first | done | rfl) | (rw [do_2 (by assumption)]; first | done | rfl) | (rw [do_3n (by assumption) (by omega)]; first | done | rfl) | (rw [do_3 (by assumption) (by omega)]; first | done | rfl) | (rw [do_4 (by assumption)]; first | done | rfl) | (rw [do_5n (by assumption) (by omega)]; first | done | rfl) | (rw [do_5 (by assumption) (by omega)]; first | done | rfl) | (rw [do_0 (by assumption) (by assumption) (by assumption) (by assumption) (by assumption)]; first | done | rfl)) rfl (trivial)
            · refine ExL.nil ?_
              refine Ex.cond_f rfl ?_
              refine Ex.skip ?_
              refine Ex.region (ExL.pures 3 rfl ?_)
              refine ExL.free (fr_load rfl rfl rfl rfl (CellO.blk (i := 1) rfl rfl)) rfl rfl rfl ?_
              refine ExL.free (by first | exact fr_add64 rfl rfl rfl (by omega) | exact fr_add rfl rfl rfl) rfl rfl rfl ?_
              refine ExL.pures 2 rfl ?_
              refine ExL.op rfl (op_storeC (i := 1) rfl rfl rfl rfl rfl rfl rfl rfl rfl rfl ?_)
              refine ExL.nil ?_
              refine Ex.regSeq (ExL.pures 2 rfl ?_)
              refine ExL.nil ?_
              refine Ex.ret ?_
              refine MutQ.mk () rfl (.tmp rfl (.tmp rfl .nil)) (t2 (vI (by first | (rw [do_1 (by assumption)]; first | done | rfl) | (rw [do_2 (by assumption)]; first | done | rfl) | (rw [do_3n (by assumption) (by omega)]; first | done | rfl) | (rw [do_3 (by assumption) (by omega)]; first | done | rfl) | (rw [do_4 (by assumption)]; first | done | rfl) | (rw [do_5n (by assumption) (by omega)]; first | done | rfl) | (rw [do_5 (by assumption) (by omega)]; first | done | rfl) | (rw [do_0 (by assumption) (by assumption) (by assumption) (by assumption) (by assumption)]; first | done | rfl))) (vI (by first | (rw [do_1 (by assumption)]; first | done | rfl) | (rw [do_2 (by assumption)]; first | done | rfl) | (rw [do_3n (by assumption) (by omega)]; first | done | rfl) | (rw [do_3 (by assumption) (by omega)]; first | done | rfl) | (rw [do_4 (by assumption)]; first | done | rfl) | (rw [do_5n (by assumption) (by omega)]; first | done | rfl) | (rw [do_5 (by assumption) (by omega)]; first | done | rfl) | (rw [do_0 (by assumption) (by assumption) (by assumption) (by assumption) (by assumption)]; first | done | rfl)))) 3 [1, 2] (by first | (rw [do_1 (by assumption)]; first | done | rfl) | (rw [do_2 (by assumption)]; first | done | rfl) | (rw [do_3n (by assumption) (by omega)]; first | done | rfl) | (rw [do_3 (by assumption) (by omega)]; first | done | rfl) | (rw [do_4 (by assumption)]; first | done | rfl) | (rw [do_5n (by assumption) (by omega)]; first | done | rfl) | (rw [do_5 (by assumption) (by omega)]; first | done | rfl) | (rw [do_0 (by assumption) (by assumption) (by assumption) (by assumption) (by assumption)]; first | done | rfl)) rfl (trivial)
          · refine ExL.pures 1 rfl ?_
            refine ExL.nil ?_
            refine Ex.cond_f rfl ?_
            refine Ex.skip ?_
            refine Ex.regSeq (ExL.pures 2 rfl ?_)
            refine ExL.nil ?_
            refine Ex.ret ?_
            refine MutQ.mk () rfl (.tmp rfl (.tmp rfl .nil)) (t2 (vI (by first | (rw [do_1 (by assumption)]; first | done | rfl) | (rw [do_2 (by assumption)]; first | done | rfl) | (rw [do_3n (by assumption) (by omega)]; first | done | rfl) | (rw [do_3 (by assumption) (by omega)]; first | done | rfl) | (rw [do_4 (by assumption)]; first | done | rfl) | (rw [do_5n (by assumption) (by omega)]; first | done | rfl) | (rw [do_5 (by assumption) (by omega)]; first | done | rfl) | (rw [do_0 (by assumption) (by assumption) (by assumption) (by assumption) (by assumption)]; first | done | rfl))) (vI (by first | (rw [do_1 (by assumption)]; first | done | rfl) | (rw [do_2 (by assumption)]; first | done | rfl) | (rw [do_3n (by assumption) (by omega)]; first | done | rfl) | (rw [do_3 (by assumption) (by omega)]; first | done | rfl) | (rw [do_4 (by assumption)]; first | done | rfl) | (rw [do_5n (by assumption) (by omega)]; first | done | rfl) | (rw [do_5 (by assumption) (by omega)]; first | done | rfl) | (rw [do_0 (by assumption) (by assumption) (by assumption) (by assumption) (by assumption)]; first | done | rfl)))) 3 [1, 2] (by first | (rw [do_1 (by assumption)]; first | done | rfl) | (rw [do_2 (by assumption)]; first | done | rfl) | (rw [do_3n (by assumption) (by omega)]; first | done | rfl) | (rw [do_3 (by assumption) (by omega)]; first | done | rfl) | (rw [do_4 (by assumption)]; first | done | rfl) | (rw [do_5n (by assumption) (by omega)]; first | done | rfl) | (rw [do_5 (by assumption) (by omega)]; first | done | rfl) | (rw [do_0 (by assumption) (by assumption) (by assumption) (by assumption) (by assumption)]; first | done | rfl)) rfl (trivial)
end Go.Proofs.YtiibhahhjkaodaaGreatDoor

/- What these functions of the program hand back, each proved by walking its operations. -/
set_option linter.unusedVariables false
set_option linter.unusedSimpArgs false
set_option maxRecDepth 4000
namespace Go.Proofs.YtiibhahhjkaodaaGreatDoor
open Go Go.Sx Go.RowKit Go.W Go.Proofs
attribute [local irreducible] Ex ExL ExD Op1 Free RetQ MutQ Reads CellO SegO LoadsAs
theorem e_74 : Enters Tryz.prog 74 := Enters.of Tryz.func74 rfl
theorem c_Clone (s : List Int) (As : Option Addr) (cs : Nat) (hls : s.length ≤ 1048576) : Ret Tryz.prog 74 [.slice As s.length cs] (fun w => Rd w As (s.flatMap (eI .u8))) (fun x : Option Addr × Nat => .slice x.1 s.length x.2) (fun x => [.row (.slice x.1 s.length x.2) 5 1 s.length (s.flatMap (eI .u8))]) (fun x => True) := by
  refine Ret.of e_74 Tryz.func74 rfl Tryz.ntmps74 rfl rfl (fun w hpre => ?_)
  have hs := hpre.base
  have hm0 : maxLen = 9223372036854775807 := rfl
  refine Ex.regSeq (ExL.pures 1 rfl ?_)
  refine ExL.nil ?_
  refine Ex.seq ?_
  refine Ex.regSeq (ExL.pures 1 rfl ?_)
  refine ExL.free (fr_eql_nil rfl rfl rfl rfl) rfl rfl rfl ?_
  refine ExL.nil ?_
  refine Ex.cond rfl (fun hb1 => ?_) (fun hb1 => ?_)
  · refine Ex.regSeq (ExL.pures 1 rfl ?_)
    refine ExL.nil ?_
    refine Ex.nilRow 5 1 ?_
    refine Ex.ret ?_
    obtain rfl := nil_of_none hs (by assumption)
    refine RetQ.mk (none, 0) rfl (.tmp rfl .nil) (rfl) [0] (rfl) rfl (trivial)
  · refine Ex.skip ?_
    refine Ex.regSeq (ExL.pures 0 rfl ?_)
    refine ExL.op rfl (op_buildSlice (sz := 1) rfl rfl rfl rfl rfl rfl rfl rfl (by decide) rfl rfl rfl (fun r2 => ?_))
    refine ExL.pures 1 rfl ?_
    refine ExL.op rfl (op_append0 (sz := 1) (bytes := 1) (i := 0) rfl rfl rfl rfl (Reads.old hs) (flat_len (eI_len .u8) _) (fun e => by simp_all) (all_flat (fun _ => rfl) _) rfl rfl rfl (by constructor <;> first | omega | (unfold maxLen; omega)) rfl rfl (fun A3 cA3 => ?_))
    refine ExL.pures 1 rfl ?_
    refine ExL.nil ?_
    refine Ex.ret ?_
    refine RetQ.mk (A3, cA3) rfl (.tmp rfl .nil) (rfl) [0] (rfl) rfl (trivial)
theorem e_48 : Enters Tryz.prog 48 := Enters.of Tryz.func48 rfl
theorem c_cloneDevice (d : VDev) (Ad : Option Addr) (cd : Nat) (hl : d.stack.length ≤ 1048576) : Ret Tryz.prog 48 [.agg (encV Ad cd d).toArray] (fun w => Rd w Ad (d.stack.flatMap (eI .u8))) (fun x : Option Addr × Nat => .agg (encV x.1 x.2 d).toArray) (fun x => [.row (.slice x.1 d.stack.length x.2) 5 1 d.stack.length (d.stack.flatMap (eI .u8))]) (fun x => True) := by
  refine Ret.of e_48 Tryz.func48 rfl Tryz.ntmps48 rfl rfl (fun w hpre => ?_)
  have hd := hpre.base
  have hm0 : maxLen = 9223372036854775807 := rfl
  refine Ex.regSeq (ExL.pures 0 rfl ?_)
  refine ExL.op rfl (op_box rfl rfl rfl rfl rfl (fun b1 => ?_))
  refine ExL.op rfl (op_alloc rfl rfl rfl rfl rfl (fun b2 => ?_))
  refine ExL.nil ?_
  refine Ex.regSeq (ExL.pures 1 rfl ?_)
  refine ExL.free (fr_load rfl rfl rfl rfl (CellO.blk (i := 1) rfl rfl)) rfl rfl rfl ?_
  refine ExL.op rfl (op_ret rfl rfl rfl (c_Clone d.stack _ _ (by omega)) (Reads.get (Reads.old hd)) rfl rfl (fun x3 hx3 => ?_))
  refine ExL.pures 1 rfl ?_
  refine ExL.op rfl (op_storeC (i := 2) rfl rfl rfl rfl rfl rfl rfl rfl rfl rfl ?_)
  refine ExL.nil ?_
  refine Ex.regSeq (ExL.pures 0 rfl ?_)
  refine ExL.free (fr_loadN rfl rfl rfl rfl rfl (SegO.whole (i := 2) rfl)) rfl rfl rfl ?_
  refine ExL.op rfl (op_storeC (i := 1) rfl rfl rfl rfl rfl rfl rfl rfl rfl rfl ?_)
  refine ExL.nil ?_
  refine Ex.ret ?_
  refine RetQ.mk (x3.1, x3.2) rfl (.cell rfl (.many rfl rfl rfl (SegO.whole (i := 1) rfl)) .nil) (rfl) [0] (rfl) rfl (trivial)
theorem e_51 : Enters Tryz.prog 51 := Enters.of Tryz.func51 rfl
theorem c_l07Copy (d : VDev) (Ad : Option Addr) (cd : Nat) (b : Nat) (hAd : Ad = none → cd = 0) (hl : d.stack.length ≤ 1048576) : Ret Tryz.prog 51 [.pointer (some ⟨b, 0, none⟩)] (fun w => Rd w (some ⟨b, 0, none⟩) (encV Ad cd d) ∧ Rd w Ad (d.stack.flatMap (eI .u8))) (fun x : Option Addr × Nat => .agg (encV x.1 x.2 d).toArray) (fun x => [.row (.slice x.1 d.stack.length x.2) 5 1 d.stack.length (d.stack.flatMap (eI .u8))]) (fun x => True) := by
  refine Ret.of e_51 Tryz.func51 rfl Tryz.ntmps51 rfl rfl (fun w hpre => ?_)
  have hp := hpre.1.base
  have hd := hpre.2.base
  have hm0 : maxLen = 9223372036854775807 := rfl
  refine Ex.regSeq (ExL.pures 0 rfl ?_)
  refine ExL.op rfl (op_alloc rfl rfl rfl rfl rfl (fun b1 => ?_))
  refine ExL.nil ?_
  refine Ex.regSeq (ExL.pures 2 rfl ?_)
  refine ExL.free (fr_loadN rfl rfl rfl rfl rfl (SegO.at 0 12 (Reads.old hp) rfl)) rfl rfl rfl ?_
  refine ExL.op rfl (op_alloc rfl rfl rfl rfl rfl (fun b2 => ?_))
  refine ExL.op rfl (op_storeC (i := 0) rfl rfl rfl rfl rfl rfl rfl rfl rfl rfl ?_)
  refine ExL.nil ?_
  refine Ex.regSeq (ExL.pures 0 rfl ?_)
  refine ExL.op rfl (op_buildSlice (sz := 1) rfl rfl rfl rfl rfl rfl rfl rfl (by decide) rfl rfl rfl (fun r3 => ?_))
  refine ExL.pures 3 rfl ?_
  refine ExL.free (fr_load rfl rfl rfl rfl (CellO.at 0 (Reads.old hp) rfl)) rfl rfl rfl ?_
  refine ExL.op rfl (op_append0 (sz := 1) (bytes := 1) (i := 0) rfl rfl rfl rfl (Reads.old hd) (flat_len (eI_len .u8) _) (fun e => ⟨by subst e; have := fun h => hd.isSome (A := none) h; rcases Nat.eq_zero_or_pos d.stack.length with h | h; exact h; exact absurd (this (by rw [flat_len (eI_len .u8)]; omega)) (by simp), hAd e⟩) (all_flat (fun _ => rfl) _) rfl rfl rfl (by constructor <;> first | omega | (unfold maxLen; omega)) rfl rfl (fun A4 cA4 => ?_))
  refine ExL.pures 1 rfl ?_
  refine ExL.op rfl (op_storeC (i := 1) rfl rfl rfl rfl rfl rfl rfl rfl rfl rfl ?_)
  refine ExL.nil ?_
  refine Ex.regSeq (ExL.pures 0 rfl ?_)
  refine ExL.free (fr_loadN rfl rfl rfl rfl rfl (SegO.whole (i := 1) rfl)) rfl rfl rfl ?_
  refine ExL.op rfl (op_storeC (i := 2) rfl rfl rfl rfl rfl rfl rfl rfl rfl rfl ?_)
  refine ExL.nil ?_
  refine Ex.ret ?_
  refine RetQ.mk (A4, cA4) rfl (.cell rfl (.many rfl rfl rfl (SegO.whole (i := 2) rfl)) .nil) (rfl) [0] (rfl) rfl (trivial)
end Go.Proofs.YtiibhahhjkaodaaGreatDoor

/- What these functions of the program hand back, each proved by walking its operations. -/
set_option linter.unusedVariables false
set_option linter.unusedSimpArgs false
set_option maxRecDepth 4000
namespace Go.Proofs.YtiibhahhjkaodaaGreatDoor
open Go Go.Sx Go.RowKit Go.W Go.Proofs
attribute [local irreducible] Ex ExL ExD Op1 Free RetQ MutQ Reads CellO SegO LoadsAs
theorem eq_Act (d : Nat) (a b : VAct) : EqOk Tryz.prog (d + 1 + 1) 63 (.agg (encA a).toArray) (.agg (encA b).toArray) (sameA a b) := by
  refine EqOk.as (EqOk.struct rfl rfl (by kernel_rfl) (EqFs.one rfl rfl rfl rfl rfl (EqOk.int rfl) (EqFs.one rfl rfl rfl rfl rfl (EqOk.int rfl) EqFs.nil))) ?_
  unfold sameA; simp [Bool.decide_and]
theorem eq_Note (a b : VNote) : EqOk Tryz.prog 10000 108 (.agg (encN a).toArray) (.agg (encN b).toArray) (sameN a b) := by
  refine EqOk.as (EqOk.struct (d := 9999) rfl rfl (by kernel_rfl) (EqFs.many (cx := encA a.act) (cy := encA b.act) rfl rfl rfl rfl rfl rfl (eq_Act 9997 a.act b.act) (EqFs.many (cx := encD a.shows) (cy := encD b.shows) rfl rfl rfl rfl rfl rfl (EqOk.ints (d := 9997) rfl rfl rfl rfl a.shows.l b.shows.l rfl rfl) (EqFs.one rfl rfl rfl rfl rfl (EqOk.int rfl) EqFs.nil)))) ?_
  unfold sameN; simp [Bool.decide_and]
end Go.Proofs.YtiibhahhjkaodaaGreatDoor

/- What these functions of the program hand back, each proved by walking its operations. -/
set_option linter.unusedVariables false
set_option linter.unusedSimpArgs false
set_option maxRecDepth 4000
namespace Go.Proofs.YtiibhahhjkaodaaGreatDoor
open Go Go.Sx Go.RowKit Go.W Go.Proofs
attribute [local irreducible] Ex ExL ExD Op1 Free RetQ MutQ Reads CellO SegO LoadsAs
end Go.Proofs.YtiibhahhjkaodaaGreatDoor

/- What these functions of the program hand back, each proved by walking its operations. -/
set_option linter.unusedVariables false
set_option linter.unusedSimpArgs false
set_option maxRecDepth 4000
namespace Go.Proofs.YtiibhahhjkaodaaGreatDoor
open Go Go.Sx Go.RowKit Go.W Go.Proofs
attribute [local irreducible] Ex ExL ExD Op1 Free RetQ MutQ Reads CellO SegO LoadsAs
end Go.Proofs.YtiibhahhjkaodaaGreatDoor

/- What these functions of the program hand back, each proved by walking its operations. -/
set_option linter.unusedVariables false
set_option linter.unusedSimpArgs false
set_option maxRecDepth 4000
namespace Go.Proofs.YtiibhahhjkaodaaGreatDoor
open Go Go.Sx Go.RowKit Go.W Go.Proofs
attribute [local irreducible] Ex ExL ExD Op1 Free RetQ MutQ Reads CellO SegO LoadsAs
theorem e_94 : Enters Tryz.prog 94 := Enters.of Tryz.func94 rfl
theorem c_slIndexFuncA (s : List VAct) (As : Option Addr) (cs : Nat) (hls : s.length ≤ maxLen) (g : FuncId) (cap : List Value) (Pr : World → Prop) (hPr : ∀ w w', Pr w → Below w.heap.size w w' → Pr w') (p : VAct → Bool) (hp : ∀ x : VAct, Ret Tryz.prog g ([.agg (encA x).toArray] ++ cap) Pr (fun _ : Unit => .bool (p x)) (fun _ => []) (fun _ => True)) : Ret Tryz.prog 94 [.slice As s.length cs, .func (.func g) #[] cap.toArray] (fun w => Rd w As (s.flatMap encA) ∧ Pr w) (fun x : Unit => .int .i64 (idxF p s)) (fun x => []) (fun x => True) := by
  refine Ret.of e_94 Tryz.func94 rfl Tryz.ntmps94 rfl rfl (fun w hpre => ?_)
  have hs := hpre.1.base
  have hm0 : maxLen = 9223372036854775807 := rfl
  refine Ex.regSeq (ExL.pures 1 rfl ?_)
  refine ExL.nil ?_
  refine Ex.seq ?_
  refine Ex.regSeq (ExL.pures 3 rfl ?_)
  refine ExL.nil ?_
  refine Ex.block ?_
  refine Ex.loopK (X := Nat) (fun k => [(8, .int .i64 k)]) (fun k => []) (fun k => k ≤ s.length ∧ ∀ i, i < k → p (s.getD i zA) = false) (fun k => s.length - k) 0 [(0, _), (1, _), (7, _)] [] 0 [] ⟨rfl, trivial⟩ ⟨rfl, rfl, rfl, trivial⟩ (rfl) rfl ⟨Nat.zero_le _, fun i hi => by omega⟩ (fun k hI => ?_)
  have hI : k ≤ s.length ∧ ∀ i, i < k → p (s.getD i zA) = false := hI
  obtain ⟨hk, hall⟩ := hI
  refine Ex.regSeq (ExL.pures 0 rfl ?_)
  refine ExL.lss rfl rfl rfl rfl rfl rfl (fun h1 => ?_) (fun h1 => ?_)
  · refine ExL.nil ?_
    refine Ex.seq ?_
    refine Ex.cond_t rfl ?_
    refine Ex.skip ?_
    refine Ex.seq ?_
    refine Ex.block ?_
    have hk2 : k < s.length := by omega
    refine Ex.regSeq (ExL.pures 2 rfl ?_)
    refine ExL.nil ?_
    refine Ex.regSeq (ExL.pures 3 rfl ?_)
    refine ExL.free (fr_indexAddrF (Reads.old hs) encA_len rfl rfl rfl rfl rfl rfl (by omega)) rfl rfl rfl ?_
    refine ExL.free (fr_loadN rfl rfl rfl rfl rfl (by first | exact segN (Reads.old hs) encA_len rfl zA (by omega) | exact segF (Reads.old hs) encA_len rfl zA (by omega))) rfl rfl rfl ?_
    refine ExL.op rfl (op_ret rfl rfl rfl (hp _) (fun w' hw => hPr _ _ hpre.2 hw.below) rfl rfl (fun x2 hx2 => ?_))
    refine ExL.nil ?_
    refine Ex.cond rfl (fun hb3 => ?_) (fun hb3 => ?_)
    · refine Ex.regSeq (ExL.pures 2 rfl ?_)
      refine ExL.nil ?_
      refine Ex.ret ?_
      refine RetQ.mk () rfl (.tmp rfl .nil) (tI (by first | exact (idx_hit (by omega) hall (by assumption)).symm | exact (idx_none (by omega) hall).symm)) [] (rfl) rfl (trivial)
    · refine Ex.skip ?_
      refine Ex.region (ExL.pures 0 rfl ?_)
      refine ExL.free (by first | exact fr_add64 rfl rfl rfl (by omega) | exact fr_add rfl rfl rfl) rfl rfl rfl ?_
      refine ExL.pures 1 rfl ?_
      refine ExL.nil ?_
      refine Hand.mk (k + 1) 0 [] ⟨rfl, trivial⟩ ⟨rfl, rfl, rfl, trivial⟩ (rfl) rfl (⟨by omega, all_snoc hall (by assumption)⟩) (by omega)
  · refine ExL.nil ?_
    refine Ex.seq ?_
    refine Ex.cond_f rfl ?_
    refine Ex.exit ?_
    refine Ex.regSeq (ExL.pures 1 rfl ?_)
    refine ExL.nil ?_
    refine Ex.ret ?_
    refine RetQ.mk () rfl (.tmp rfl .nil) (tI (by first | exact (idx_hit (by omega) hall (by assumption)).symm | exact (idx_none (by omega) hall).symm)) [] (rfl) rfl (trivial)
theorem e_72 : Enters Tryz.prog 72 := Enters.of Tryz.func72 rfl
theorem c_slContainsFuncA (s : List VAct) (As : Option Addr) (cs : Nat) (hls : s.length ≤ maxLen) (g : FuncId) (cap : List Value) (Pr : World → Prop) (hPr : ∀ w w', Pr w → Below w.heap.size w w' → Pr w') (p : VAct → Bool) (hp : ∀ x : VAct, Ret Tryz.prog g ([.agg (encA x).toArray] ++ cap) Pr (fun _ : Unit => .bool (p x)) (fun _ => []) (fun _ => True)) : Ret Tryz.prog 72 [.slice As s.length cs, .func (.func g) #[] cap.toArray] (fun w => Rd w As (s.flatMap encA) ∧ Pr w) (fun x : Unit => .bool (s.any p)) (fun x => []) (fun x => True) := by
  refine Ret.of e_72 Tryz.func72 rfl Tryz.ntmps72 rfl rfl (fun w hpre => ?_)
  have hs := hpre.1.base
  have hm0 : maxLen = 9223372036854775807 := rfl
  refine Ex.regSeq (ExL.pures 1 rfl ?_)
  refine ExL.nil ?_
  refine Ex.regSeq (ExL.pures 2 rfl ?_)
  refine ExL.op rfl (op_ret rfl rfl rfl (c_slIndexFuncA s _ _ (by omega) g cap Pr hPr p hp) (fun w' hw => ⟨Reads.get (Reads.old hs) w' hw, hPr _ _ hpre.2 hw.below⟩) rfl rfl (fun x1 hx1 => ?_))
  refine ExL.geq rfl rfl rfl rfl rfl rfl (fun h2 => ?_) (fun h2 => ?_)
  · refine ExL.pures 1 rfl ?_
    refine ExL.nil ?_
    refine Ex.ret ?_
    refine RetQ.mk () rfl (.tmp rfl .nil) (tB (by rw [any_idx]; first | exact dec_t (by omega) | exact dec_f (by omega) | rfl)) [] (rfl) rfl (trivial)
  · refine ExL.pures 1 rfl ?_
    refine ExL.nil ?_
    refine Ex.ret ?_
    refine RetQ.mk () rfl (.tmp rfl .nil) (tB (by rw [any_idx]; first | exact dec_t (by omega) | exact dec_f (by omega) | rfl)) [] (rfl) rfl (trivial)
theorem e_73 : Enters Tryz.prog 73 := Enters.of Tryz.func73 rfl
theorem c_af1 (a : VAct) : Ret Tryz.prog 73 [.agg (encA a).toArray] (fun w => True) (fun x : Unit => .bool (badA a)) (fun x => []) (fun x => True) := by
  refine Ret.of e_73 Tryz.func73 rfl Tryz.ntmps73 rfl rfl (fun w hpre => ?_)
  refine Ex.regSeq (ExL.pures 0 rfl ?_)
  refine ExL.op rfl (op_box rfl rfl rfl rfl rfl (fun b1 => ?_))
  refine ExL.pures 1 rfl ?_
  refine ExL.nil ?_
  refine Ex.regSeq (ExL.pures 0 rfl ?_)
  refine ExL.free (fr_loadN rfl rfl rfl rfl rfl (SegO.whole (i := 0) rfl)) rfl rfl rfl ?_
  refine ExL.op rfl (op_ret rfl rfl rfl (c_ValidAct _) (fun _ _ => trivial) rfl rfl (fun x2 hx2 => ?_))
  refine ExL.pures 2 rfl ?_
  refine ExL.nil ?_
  refine Ex.ret ?_
  refine RetQ.mk () rfl (.tmp rfl .nil) (tB (by unfold badA; simp_all)) [] (rfl) rfl (trivial)
theorem e_47 : Enters Tryz.prog 47 := Enters.of Tryz.func47 rfl
theorem c_actsFault (l : List VAct) (Al : Option Addr) (cl : Nat) (hll : l.length ≤ maxLen) : Ret Tryz.prog 47 [.slice Al l.length cl] (fun w => Rd w Al (l.flatMap encA)) (fun x : Unit => .int .i64 (afault l)) (fun x => []) (fun x => True) := by
  refine Ret.of e_47 Tryz.func47 rfl Tryz.ntmps47 rfl rfl (fun w hpre => ?_)
  have hl := hpre.base
  have hm0 : maxLen = 9223372036854775807 := rfl
  refine Ex.regSeq (ExL.pures 1 rfl ?_)
  refine ExL.nil ?_
  refine Ex.seq ?_
  refine Ex.block ?_
  refine Ex.regSeq (ExL.pures 1 rfl ?_)
  refine ExL.op rfl (op_ret rfl rfl rfl (c_slContainsFuncA l _ _ (by omega) 73 [] (fun _ => True) (fun _ _ _ _ => trivial) (badA) (fun x => c_af1 x)) (fun w' hw => ⟨Reads.get (Reads.old hl) w' hw, trivial⟩) rfl rfl (fun x1 hx1 => ?_))
  refine ExL.pures 1 rfl ?_
  refine ExL.nil ?_
  refine Ex.cond rfl (fun hb2 => ?_) (fun hb2 => ?_)
  · refine Ex.regSeq (ExL.pures 1 rfl ?_)
    refine ExL.nil ?_
    refine Ex.ret ?_
    refine RetQ.mk () rfl (.tmp rfl .nil) (tI (by first | exact af_bad (by assumption) | exact af_long (by assumption) (by assumption) | exact af_ok (by assumption) (by assumption))) [] (rfl) rfl (trivial)
  · refine Ex.regSeq (ExL.pures 2 rfl ?_)
    refine ExL.gtr rfl rfl rfl rfl rfl rfl (fun h3 => ?_) (fun h3 => ?_)
    · refine ExL.pures 1 rfl ?_
      refine ExL.nil ?_
      refine Ex.cond_t rfl ?_
      refine Ex.regSeq (ExL.pures 1 rfl ?_)
      refine ExL.nil ?_
      refine Ex.ret ?_
      refine RetQ.mk () rfl (.tmp rfl .nil) (tI (by first | exact af_bad (by assumption) | exact af_long (by assumption) (by assumption) | exact af_ok (by assumption) (by assumption))) [] (rfl) rfl (trivial)
    · refine ExL.pures 1 rfl ?_
      refine ExL.nil ?_
      refine Ex.cond_f rfl ?_
      refine Ex.skip ?_
      refine Ex.regSeq (ExL.pures 1 rfl ?_)
      refine ExL.nil ?_
      refine Ex.ret ?_
      refine RetQ.mk () rfl (.tmp rfl .nil) (tI (by first | exact af_bad (by assumption) | exact af_long (by assumption) (by assumption) | exact af_ok (by assumption) (by assumption))) [] (rfl) rfl (trivial)
end Go.Proofs.YtiibhahhjkaodaaGreatDoor

/- What these functions of the program hand back, each proved by walking its operations. -/
set_option linter.unusedVariables false
set_option linter.unusedSimpArgs false
set_option maxRecDepth 4000
namespace Go.Proofs.YtiibhahhjkaodaaGreatDoor
open Go Go.Sx Go.RowKit Go.W Go.Proofs
attribute [local irreducible] Ex ExL ExD Op1 Free RetQ MutQ Reads CellO SegO LoadsAs
end Go.Proofs.YtiibhahhjkaodaaGreatDoor

/- What these functions of the program hand back, each proved by walking its operations. -/
set_option linter.unusedVariables false
set_option linter.unusedSimpArgs false
set_option maxRecDepth 4000
namespace Go.Proofs.YtiibhahhjkaodaaGreatDoor
open Go Go.Sx Go.RowKit Go.W Go.Proofs
attribute [local irreducible] Ex ExL ExD Op1 Free RetQ MutQ Reads CellO SegO LoadsAs
theorem e_52 : Enters Tryz.prog 52 := Enters.of Tryz.func52 rfl
theorem c_l07Asked (d : VDev) (hk : OkDev d) (Ad : Option Addr) (cd : Nat) (b : Nat) (l : List VAct) (Al : Option Addr) (cl : Nat) (hll : l.length ≤ maxLen) : Ret Tryz.prog 52 [.pointer (some ⟨b, 0, none⟩), .slice Al l.length cl] (fun w => Rd w (some ⟨b, 0, none⟩) (encV Ad cd d) ∧ Rd w Ad (d.stack.flatMap (eI .u8)) ∧ Rd w Al (l.flatMap encA)) (fun x : Unit => .int .i64 (askV d l)) (fun x => []) (fun x => True) := by
  refine Ret.of e_52 Tryz.func52 rfl Tryz.ntmps52 rfl rfl (fun w hpre => ?_)
  have hp := hpre.1.base
  have hd := hpre.2.1.base
  have hl := hpre.2.2.base
  have hm0 : maxLen = 9223372036854775807 := rfl
  refine Ex.regSeq (ExL.pures 1 rfl ?_)
  refine ExL.nil ?_
  refine Ex.regSeq (ExL.pures 1 rfl ?_)
  refine ExL.op rfl (op_ret rfl rfl rfl (c_l07Ok d (by assumption) _ _ _) (fun w hw => ⟨Reads.get (Reads.old hp) w hw, Reads.get (Reads.old hd) w hw⟩) rfl rfl (fun x1 hx1 => ?_))
  refine ExL.pures 1 rfl ?_
  refine ExL.nil ?_
  refine Ex.seq ?_
  refine Ex.regSeq (ExL.pures 1 rfl ?_)
  refine ExL.nil ?_
  refine Ex.block ?_
  refine Ex.loopK (X := Nat) (fun k => [(5, .bool (okB d l k)), (6, .int .i64 k)]) (fun k => []) (fun k => k ≤ l.length ∧ ∀ i, i < k → okB d l i = true) (fun k => l.length - k) 0 [(1, _), (4, _)] [] 0 [] ⟨rfl, rfl, trivial⟩ ⟨rfl, rfl, trivial⟩ (rfl) rfl ⟨Nat.zero_le _, fun i hi => by omega⟩ (fun k hI => ?_)
  have hI : k ≤ l.length ∧ ∀ i, i < k → okB d l i = true := hI
  obtain ⟨hkl, hall⟩ := hI
  refine Ex.seq ?_
  refine Ex.regSeq (ExL.pures 3 rfl ?_)
  refine ExL.lss rfl rfl rfl rfl rfl rfl (fun h2 => ?_) (fun h2 => ?_)
  · refine ExL.pures 3 rfl ?_
    refine ExL.nil ?_
    refine Ex.cond rfl (fun hb3 => ?_) (fun hb3 => ?_)
    · refine Ex.skip ?_
      refine Ex.seq ?_
      refine Ex.block ?_
      refine Ex.region (ExL.pures 2 rfl ?_)
      refine ExL.free (fr_indexAddrF (Reads.old hl) encA_len rfl rfl rfl rfl rfl rfl (by omega)) rfl rfl rfl ?_
      refine ExL.free (fr_loadN rfl rfl rfl rfl rfl (by first | exact segN (Reads.old hl) encA_len rfl zA (by omega) | exact segF (Reads.old hl) encA_len rfl zA (by omega))) rfl rfl rfl ?_
      refine ExL.op rfl (op_ret rfl rfl rfl (c_l07Act _) (fun _ _ => trivial) rfl rfl (fun x4 hx4 => ?_))
      refine ExL.pures 1 rfl ?_
      refine ExL.nil ?_
      refine Ex.region (ExL.pures 1 rfl ?_)
      refine ExL.free (by first | exact fr_add64 rfl rfl rfl (by omega) | exact fr_add rfl rfl rfl) rfl rfl rfl ?_
      refine ExL.pures 1 rfl ?_
      refine ExL.nil ?_
      refine Hand.mk (k + 1) 0 [] ⟨rfl, rfl, trivial⟩ ⟨rfl, rfl, trivial⟩ (rfl) rfl (⟨by omega, all_snoc hall (by assumption)⟩) (by omega)
    · refine Ex.exit ?_
      refine Ex.seq ?_
      refine Ex.regSeq (ExL.pures 2 rfl ?_)
      refine ExL.nil ?_
      refine Ex.cond rfl (fun hb5 => ?_) (fun hb5 => ?_)
      · replace hb5 := nb_t hb5
        refine Ex.regSeq (ExL.pures 1 rfl ?_)
        refine ExL.nil ?_
        refine Ex.ret ?_
        refine RetQ.mk () rfl (.tmp rfl .nil) (tI (by first | exact ask_f (k := k) (by omega) hall (by assumption) | exact ask_3 (k := k) (by omega) (by omega) hall (by assumption) (by omega) | exact ask_0 (k := k) (by omega) (by omega) hall (by assumption) (by omega) | (exfalso; simp_all; done))) [] (rfl) rfl (trivial)
      · replace hb5 := nb_f hb5
        refine Ex.skip ?_
        refine Ex.seq ?_
        refine Ex.regSeq (ExL.pures 2 rfl ?_)
        refine ExL.gtr rfl rfl rfl rfl rfl rfl (fun h6 => ?_) (fun h6 => ?_)
        · refine ExL.nil ?_
          refine Ex.cond_t rfl ?_
          refine Ex.regSeq (ExL.pures 1 rfl ?_)
          refine ExL.nil ?_
          refine Ex.ret ?_
          refine RetQ.mk () rfl (.tmp rfl .nil) (tI (by first | exact ask_f (k := k) (by omega) hall (by assumption) | exact ask_3 (k := k) (by omega) (by omega) hall (by assumption) (by omega) | exact ask_0 (k := k) (by omega) (by omega) hall (by assumption) (by omega) | (exfalso; simp_all; done))) [] (rfl) rfl (trivial)
        · refine ExL.nil ?_
          refine Ex.cond_f rfl ?_
          refine Ex.skip ?_
          refine Ex.regSeq (ExL.pures 1 rfl ?_)
          refine ExL.nil ?_
          refine Ex.ret ?_
          refine RetQ.mk () rfl (.tmp rfl .nil) (tI (by first | exact ask_f (k := k) (by omega) hall (by assumption) | exact ask_3 (k := k) (by omega) (by omega) hall (by assumption) (by omega) | exact ask_0 (k := k) (by omega) (by omega) hall (by assumption) (by omega) | (exfalso; simp_all; done))) [] (rfl) rfl (trivial)
  · refine ExL.pures 3 rfl ?_
    refine ExL.nil ?_
    refine Ex.cond_f rfl ?_
    refine Ex.exit ?_
    refine Ex.seq ?_
    refine Ex.regSeq (ExL.pures 2 rfl ?_)
    refine ExL.nil ?_
    refine Ex.cond rfl (fun hb7 => ?_) (fun hb7 => ?_)
    · replace hb7 := nb_t hb7
      refine Ex.regSeq (ExL.pures 1 rfl ?_)
      refine ExL.nil ?_
      refine Ex.ret ?_
      refine RetQ.mk () rfl (.tmp rfl .nil) (tI (by first | exact ask_f (k := k) (by omega) hall (by assumption) | exact ask_3 (k := k) (by omega) (by omega) hall (by assumption) (by omega) | exact ask_0 (k := k) (by omega) (by omega) hall (by assumption) (by omega) | (exfalso; simp_all; done))) [] (rfl) rfl (trivial)
    · replace hb7 := nb_f hb7
      refine Ex.skip ?_
      refine Ex.seq ?_
      refine Ex.regSeq (ExL.pures 2 rfl ?_)
      refine ExL.gtr rfl rfl rfl rfl rfl rfl (fun h8 => ?_) (fun h8 => ?_)
      · refine ExL.nil ?_
        refine Ex.cond_t rfl ?_
        refine Ex.regSeq (ExL.pures 1 rfl ?_)
        refine ExL.nil ?_
        refine Ex.ret ?_
        refine RetQ.mk () rfl (.tmp rfl .nil) (tI (by first | exact ask_f (k := k) (by omega) hall (by assumption) | exact ask_3 (k := k) (by omega) (by omega) hall (by assumption) (by omega) | exact ask_0 (k := k) (by omega) (by omega) hall (by assumption) (by omega) | (exfalso; simp_all; done))) [] (rfl) rfl (trivial)
      · refine ExL.nil ?_
        refine Ex.cond_f rfl ?_
        refine Ex.skip ?_
        refine Ex.regSeq (ExL.pures 1 rfl ?_)
        refine ExL.nil ?_
        refine Ex.ret ?_
        refine RetQ.mk () rfl (.tmp rfl .nil) (tI (by first | exact ask_f (k := k) (by omega) hall (by assumption) | exact ask_3 (k := k) (by omega) (by omega) hall (by assumption) (by omega) | exact ask_0 (k := k) (by omega) (by omega) hall (by assumption) (by omega) | (exfalso; simp_all; done))) [] (rfl) rfl (trivial)
theorem e_40 : Enters Tryz.prog 40 := Enters.of Tryz.func40 rfl
theorem c_ticket (d : VDev) (hk : OkDev d) (hv : validDev d = true) (Ad : Option Addr) (cd : Nat) (b : Nat) : Ret Tryz.prog 40 [.pointer (some ⟨b, 0, none⟩)] (fun w => Rd w (some ⟨b, 0, none⟩) (encV Ad cd d)) (fun x : Unit => .agg (encT (ticV d)).toArray) (fun x => []) (fun x => True) := by
  refine Ret.of e_40 Tryz.func40 rfl Tryz.ntmps40 rfl rfl (fun w hpre => ?_)
  have hp := hpre.base
  obtain ⟨hl, hu, ha, hpp, htt⟩ := hk
  have hO := devOk ha hv
  have hvs : validStack d.stack = true := by unfold validDev at hv; rw [decide_eq_true_iff] at hv; exact hv.1
  have hvd := hO.vd
  have hm0 : maxLen = 9223372036854775807 := rfl
  have hz := sizeS hO
  have hle := hO.stk.le
  have hps := hO.stk.pos
  have hlt : 0 ≤ val d.stack d.shows.l ∧ val d.stack d.shows.l < prod d.stack := hO.v_lt
  have hpr := hO.preset
  have htk := hO.tick
  have htk := hO.tick
  refine Ex.regSeq (ExL.pures 0 rfl ?_)
  refine ExL.op rfl (op_alloc rfl rfl rfl rfl rfl (fun b1 => ?_))
  refine ExL.nil ?_
  refine Ex.drawSeqM rfl ?_
  refine ExD.take (i := 0) rfl (by kernel_rfl) (pureVal_ok rfl) ((List.Sublist.refl _)) rfl rfl rfl ?_
  refine ExD.take (i := 1) rfl (by kernel_rfl) (pureVal_ok rfl) ((List.Sublist.refl _)) rfl rfl rfl ?_
  refine ExD.take (i := 2) rfl (by kernel_rfl) (pureVal_ok rfl) ((List.Sublist.refl _)) rfl rfl rfl ?_
  refine ExD.take (i := 3) rfl (by kernel_rfl) (fr_load rfl rfl rfl rfl (CellO.at 11 (Reads.old hp) rfl)) ((List.Sublist.refl _)) rfl rfl rfl ?_
  refine ExD.take (i := 4) rfl (by kernel_rfl) (pureVal_ok rfl) ((List.Sublist.refl _)) rfl rfl rfl ?_
  refine ExD.take (i := 5) rfl (by kernel_rfl) (pureVal_ok rfl) ((List.Sublist.refl _)) rfl rfl rfl ?_
  refine ExD.take (i := 6) rfl (by kernel_rfl) (pureVal_ok rfl) ((List.Sublist.refl _)) rfl rfl rfl ?_
  refine ExD.take (i := 7) rfl (by kernel_rfl) (fr_loadN rfl rfl rfl rfl rfl (SegO.at 1 8 (Reads.old hp) rfl)) ((List.Sublist.refl _)) rfl rfl rfl ?_
  refine ExD.take (i := 8) rfl (by kernel_rfl) (pureVal_ok rfl) ((List.Sublist.refl _)) rfl rfl rfl ?_
  refine ExD.take (i := 9) rfl (by kernel_rfl) (pureVal_ok rfl) ((List.Sublist.refl _)) rfl rfl rfl ?_
  refine ExD.take (i := 10) rfl (by kernel_rfl) (pureVal_ok rfl) ((List.Sublist.refl _)) rfl rfl rfl ?_
  refine ExD.take (i := 11) rfl (by kernel_rfl) (fr_load rfl rfl rfl rfl (CellO.at 11 (Reads.old hp) rfl)) ((List.Sublist.refl _)) rfl rfl rfl ?_
  refine ExD.take (i := 12) rfl (by kernel_rfl) (pureVal_ok rfl) ((List.Sublist.refl _)) rfl rfl rfl ?_
  refine ExD.take (i := 13) rfl (by kernel_rfl) (pureVal_ok rfl) ((List.Sublist.refl _)) rfl rfl rfl ?_
  refine ExD.take (i := 14) rfl (by kernel_rfl) (pureVal_ok rfl) ((List.Sublist.refl _)) rfl rfl rfl ?_
  refine ExD.take (i := 15) rfl (by kernel_rfl) (fr_loadN rfl rfl rfl rfl rfl (SegO.at 1 8 (Reads.old hp) rfl)) ((List.Sublist.refl _)) rfl rfl rfl ?_
  refine ExD.op (i := 16) rfl (by kernel_rfl) rfl (op_ret rfl rfl rfl (c_check _ (by omega) d.shows (by assumption)) (fun _ _ => trivial) rfl rfl (fun x2 hx2 => ⟨(List.Sublist.refl _), ?_⟩))
  refine ExD.take (i := 17) rfl (by kernel_rfl) (fr_build (cells := encT (ticV d)) rfl rfl rfl (by kernel_rfl)) ((List.Sublist.refl _)) rfl rfl rfl ?_
  refine ExD.last (i := 18) rfl (by kernel_rfl) (by kernel_rfl) rfl (op_storeC (i := 0) rfl rfl rfl rfl rfl rfl rfl rfl rfl rfl ?_)
  refine ExD.done (by kernel_rfl) ?_
  refine Ex.ret ?_
  refine RetQ.mk () rfl (.cell rfl (.many rfl rfl rfl (SegO.whole (i := 0) rfl)) .nil) (rfl) [] (rfl) rfl (trivial)
end Go.Proofs.YtiibhahhjkaodaaGreatDoor

/- What these functions of the program hand back, each proved by walking its operations. -/
set_option linter.unusedVariables false
set_option linter.unusedSimpArgs false
set_option maxRecDepth 4000
namespace Go.Proofs.YtiibhahhjkaodaaGreatDoor
open Go Go.Sx Go.RowKit Go.W Go.Proofs
attribute [local irreducible] Ex ExL ExD Op1 Free RetQ MutQ Reads CellO SegO LoadsAs
theorem e_27 : Enters Tryz.prog 27 := Enters.of Tryz.func27 rfl
theorem c_l07Run (d : VDev) (hk : OkDev d) (Ad : Option Addr) (cd : Nat) (b : Nat) (hAd : Ad = none → cd = 0) (hdl : d.stack.length ≤ 1048576) (l : List VAct) (Al : Option Addr) (cl : Nat) (hll : l.length ≤ maxLen) : Ret Tryz.prog 27 [.pointer (some ⟨b, 0, none⟩), .slice Al l.length cl] (fun w => Rd w (some ⟨b, 0, none⟩) (encV Ad cd d) ∧ Rd w Ad (d.stack.flatMap (eI .u8)) ∧ Rd w Al (l.flatMap encA)) (fun x : (Option Addr × Nat) × (Option Addr × Nat) × (Option Addr × Nat) => .tuple #[.agg (encV x.1.1 x.1.2 (runV d l).1).toArray, .slice x.2.1.1 (runV d l).2.1.length x.2.1.2, .slice x.2.2.1 (runV d l).2.2.1.length x.2.2.2, .int .i64 (runV d l).2.2.2.2]) (fun x => [.row (.slice x.1.1 (runV d l).1.stack.length x.1.2) 5 1 (runV d l).1.stack.length ((runV d l).1.stack.flatMap (eI .u8)), .row (.slice x.2.1.1 (runV d l).2.1.length x.2.1.2) 108 11 (runV d l).2.1.length ((runV d l).2.1.flatMap encN), .row (.slice x.2.2.1 (runV d l).2.2.1.length x.2.2.2) 40 10 (runV d l).2.2.1.length ((runV d l).2.2.1.flatMap encT)]) (fun x => True) := by
  refine Ret.of e_27 Tryz.func27 rfl Tryz.ntmps27 rfl rfl (fun w hpre => ?_)
  have hp := hpre.1.base
  have hd := hpre.2.1.base
  have hl := hpre.2.2.base
  have hm0 : maxLen = 9223372036854775807 := rfl
  refine Ex.regSeq (ExL.pures 0 rfl ?_)
  refine ExL.op rfl (op_alloc rfl rfl rfl rfl rfl (fun b1 => ?_))
  refine ExL.pures 3 rfl ?_
  refine ExL.nil ?_
  refine Ex.regSeq (ExL.pures 1 rfl ?_)
  refine ExL.op rfl (op_ret rfl rfl rfl (c_l07Copy d _ _ _ (by first | assumption | exact (fun e => nomatch e) | (intro e; simp_all)) (by omega)) (fun w hw => ⟨Reads.get (Reads.old hp) w hw, Reads.get (Reads.old hd) w hw⟩) rfl rfl (fun x2 hx2 => ?_))
  refine ExL.op rfl (op_alloc rfl rfl rfl rfl rfl (fun b3 => ?_))
  refine ExL.op rfl (op_storeC (i := 0) rfl rfl rfl rfl rfl rfl rfl rfl rfl rfl ?_)
  refine ExL.nil ?_
  refine Ex.regSeq (ExL.pures 0 rfl ?_)
  refine ExL.op rfl (op_buildSlice (sz := 11) rfl rfl rfl rfl rfl rfl rfl rfl (by decide) rfl rfl rfl (fun r4 => ?_))
  refine ExL.pures 1 rfl ?_
  refine ExL.nil ?_
  refine Ex.regSeq (ExL.pures 0 rfl ?_)
  refine ExL.op rfl (op_buildSlice (sz := 10) rfl rfl rfl rfl rfl rfl rfl rfl (by decide) rfl rfl rfl (fun r5 => ?_))
  refine ExL.pures 1 rfl ?_
  refine ExL.nil ?_
  refine Ex.regSeq (ExL.pures 1 rfl ?_)
  refine ExL.nil ?_
  refine Ex.regSeq (ExL.pures 2 rfl ?_)
  refine ExL.op rfl (op_ret rfl rfl rfl (c_l07Asked d (by assumption) _ _ _ l _ _ (by omega)) (fun w hw => ⟨Reads.get (Reads.old hp) w hw, Reads.get (Reads.old hd) w hw, Reads.get (Reads.old hl) w hw⟩) rfl rfl (fun x6 hx6 => ?_))
  refine ExL.pures 1 rfl ?_
  refine ExL.nil ?_
  refine Ex.seq ?_
  refine Ex.regSeq (ExL.pures 1 rfl ?_)
  refine ExL.nil ?_
  refine Ex.block ?_
  refine Ex.loopB (fun k A c A2 c2 => [(9, .slice A (notesL d l k).length c), (10, .slice A2 (ticsL d l k).length c2), (11, .int .i64 (lostD d l k)), (12, .int .i64 (cdV d l k)), (13, .int .i64 k)]) (fun k A c A2 c2 => [.blk b3 (encV x2.1 x2.2 (runD d l k)) 28, .row (.slice x2.1 (runD d l k).stack.length x2.2) 5 1 (runD d l k).stack.length ((runD d l k).stack.flatMap (eI .u8)), .row (.slice A (notesL d l k).length c) 108 11 (notesL d l k).length ((notesL d l k).flatMap encN), .row (.slice A2 (ticsL d l k).length c2) 40 10 (ticsL d l k).length ((ticsL d l k).flatMap encT)]) (fun k => k ≤ l.length) (fun k => l.length - k) 0 ((some ⟨r4, 0, none⟩)) (0) ((some ⟨r5, 0, none⟩)) (0) [(1, _), (4, _), (5, _), (6, _), (7, _), (8, _)] [_] 5 [2, 3, 1, 0, 4] ⟨rfl, rfl, rfl, agI (by rw [cd_0]), rfl, trivial⟩ ⟨rfl, rfl, rfl, rfl, rfl, rfl, trivial⟩ (rfl) rfl (Nat.zero_le _) (fun k A c A2 c2 hI => ?_)
  have hI : k ≤ l.length := hI
  refine Ex.seq ?_
  refine Ex.regSeq (ExL.pures 3 rfl ?_)
  refine ExL.lss rfl rfl rfl rfl rfl rfl (fun h7 => ?_) (fun h7 => ?_)
  · refine ExL.pures 2 rfl ?_
    refine ExL.eql rfl rfl rfl rfl rfl rfl (fun h8 => ?_) (fun h8 => ?_)
    · refine ExL.pures 1 rfl ?_
      refine ExL.nil ?_
      refine Ex.cond_t rfl ?_
      refine Ex.skip ?_
      refine Ex.seq ?_
      refine Ex.block ?_
      have hkl : k < l.length := (by omega)
      obtain ⟨hask, hrc⟩ := cd_zero (d := d) (l := l) (k := k) (by assumption)
      obtain ⟨hdv, hva, h60⟩ := ask_zero hask
      have hak := hva k hkl
      obtain ⟨hrk, hrv⟩ := run_ok hk hdv hva k (by omega)
      have hlo := lost_bd hk hdv hva k (by omega)
      have hdl := do_lost hrk hrv hak
      have hrs := runD_stack d l k
      have htl := ticsL_len d l k
      have hnl := notesL_len d l k
      obtain ⟨ho1, ho2⟩ := do_ok hrk hrv hak
      have htk := (devOk ho1.2.2.1 ho2).tick
      have hnu := ho1.2.2.1
      refine Ex.regSeq (ExL.pures 2 rfl ?_)
      refine ExL.free (fr_indexAddrF (Reads.old hl) encA_len rfl rfl rfl rfl rfl rfl (by omega)) rfl rfl rfl ?_
      refine ExL.free (fr_loadN rfl rfl rfl rfl rfl (by first | exact segN (Reads.old hl) encA_len rfl zA (by omega) | exact segF (Reads.old hl) encA_len rfl zA (by omega))) rfl rfl rfl ?_
      refine ExL.op rfl (op_mut rfl rfl rfl (c_l07Do (runD d l k) (by assumption) (by assumption) _ _ _ (l.getD k zA) (by first | assumption | simp_all)) (perm_lt (i := 0) (j := 1) rfl rfl rfl) (trivial) rfl rfl (fun x9 hx9 => ?_))
      refine ExL.pures 5 rfl ?_
      refine ExL.nil ?_
      refine Ex.regSeq (ExL.pures 2 rfl ?_)
      refine ExL.nil ?_
      refine Ex.regSeq (ExL.pures 2 rfl ?_)
      refine ExL.free (by first | exact fr_add64 rfl rfl rfl (by omega) | exact fr_add rfl rfl rfl) rfl rfl rfl ?_
      refine ExL.pures 1 rfl ?_
      refine ExL.nil ?_
      refine Ex.drawSeqI [0, 1, 3, 4] rfl rfl ?_
      refine ExD.take (i := 0) rfl (by kernel_rfl) (pureVal_ok rfl) ((List.Sublist.cons_cons _ (List.Sublist.cons_cons _ (List.Sublist.cons _ (List.Sublist.refl _))))) rfl rfl rfl ?_
      refine ExD.take (i := 1) rfl (by kernel_rfl) (pureVal_ok rfl) ((List.Sublist.cons_cons _ (List.Sublist.cons_cons _ (List.Sublist.cons _ (List.Sublist.refl _))))) rfl rfl rfl ?_
      refine ExD.take (i := 2) rfl (by kernel_rfl) (pureVal_ok rfl) ((List.Sublist.cons_cons _ (List.Sublist.cons_cons _ (List.Sublist.cons _ (List.Sublist.refl _))))) rfl rfl rfl ?_
      refine ExD.take (i := 3) rfl (by kernel_rfl) (fr_indexAddrF (Reads.old hl) encA_len rfl rfl rfl rfl rfl rfl (by omega)) ((List.Sublist.cons_cons _ (List.Sublist.cons_cons _ (List.Sublist.cons _ (List.Sublist.refl _))))) rfl rfl rfl ?_
      refine ExD.take (i := 4) rfl (by kernel_rfl) (fr_loadN rfl rfl rfl rfl rfl (by first | exact segN (Reads.old hl) encA_len rfl zA (by omega) | exact segF (Reads.old hl) encA_len rfl zA (by omega))) ((List.Sublist.cons_cons _ (List.Sublist.cons_cons _ (List.Sublist.cons _ (List.Sublist.refl _))))) rfl rfl rfl ?_
      refine ExD.take (i := 5) rfl (by kernel_rfl) (pureVal_ok rfl) ((List.Sublist.cons_cons _ (List.Sublist.cons_cons _ (List.Sublist.cons _ (List.Sublist.refl _))))) rfl rfl rfl ?_
      refine ExD.take (i := 6) rfl (by kernel_rfl) (fr_loadN rfl rfl rfl rfl rfl (SegO.part (i := 0) 8 rfl)) ((List.Sublist.cons_cons _ (List.Sublist.cons_cons _ (List.Sublist.cons _ (List.Sublist.refl _))))) rfl rfl rfl ?_
      refine ExD.take (i := 7) rfl (by kernel_rfl) (pureVal_ok rfl) ((List.Sublist.cons_cons _ (List.Sublist.cons_cons _ (List.Sublist.cons _ (List.Sublist.refl _))))) rfl rfl rfl ?_
      refine ExD.take (i := 8) rfl (by kernel_rfl) (fr_build (cells := encN ⟨l.getD k zA, (doV (runD d l k) (l.getD k zA)).1.shows, (doV (runD d l k) (l.getD k zA)).2.1⟩) rfl rfl rfl (by kernel_rfl)) ((List.Sublist.cons_cons _ (List.Sublist.cons_cons _ (List.Sublist.cons _ (List.Sublist.refl _))))) rfl rfl rfl ?_
      refine ExD.op (i := 9) rfl (by kernel_rfl) rfl (op_buildSlice (sz := 11) rfl rfl rfl rfl rfl rfl rfl rfl (by decide) rfl rfl rfl (fun r10 => ⟨(List.Sublist.cons _ (List.Sublist.cons_cons _ (List.Sublist.cons_cons _ (List.Sublist.cons _ (List.Sublist.refl _))))), ?_⟩))
      refine ExD.op (i := 10) rfl (by kernel_rfl) rfl (op_append (sz := 11) (bytes := 32) (i := 3) rfl rfl rfl rfl (Reads.row (i := 0) rfl) rfl (fun e => nomatch e) rfl rfl rfl rfl (by constructor <;> first | omega | (unfold maxLen; omega)) rfl rfl (fun A11 cA11 => ⟨(List.Sublist.cons _ (List.Sublist.cons_cons _ (List.Sublist.cons_cons _ (List.Sublist.cons _ (List.Sublist.refl _))))), ?_⟩))
      refine ExD.take (i := 11) rfl (by kernel_rfl) (pureVal_ok rfl) ((List.Sublist.cons _ (List.Sublist.cons_cons _ (List.Sublist.cons_cons _ (List.Sublist.cons _ (List.Sublist.refl _)))))) rfl rfl rfl ?_
      refine ExD.done (by kernel_rfl) ?_
      refine Ex.regSeq (ExL.pures 2 rfl ?_)
      refine ExL.free (fr_indexAddrF (Reads.old hl) encA_len rfl rfl rfl rfl rfl rfl (by omega)) rfl rfl rfl ?_
      refine ExL.free (fr_fieldAddrF (i := (↑k : Int).toNat) (Reads.old hl) encA_len rfl rfl rfl (by omega) rfl rfl rfl rfl) rfl rfl rfl ?_
      refine ExL.free (fr_load rfl rfl rfl rfl (by first | exact cellN (Reads.old hl) encA_len zA 0 rfl (by omega) rfl | exact cellF (Reads.old hl) encA_len zA 0 rfl (by omega) rfl)) rfl rfl rfl ?_
      refine ExL.eql rfl rfl rfl rfl rfl rfl (fun h13 => ?_) (fun h13 => ?_)
      · refine ExL.nil ?_
        refine Ex.cond_t rfl ?_
        refine Ex.drawI [0, 1, 2, 3, 5] rfl rfl ?_
        refine ExD.take (i := 0) rfl (by kernel_rfl) (pureVal_ok rfl) ((List.Sublist.cons_cons _ (List.Sublist.cons_cons _ (List.Sublist.cons_cons _ (List.Sublist.cons_cons _ (List.Sublist.cons _ (List.Sublist.refl _))))))) rfl rfl rfl ?_
        refine ExD.take (i := 1) rfl (by kernel_rfl) (pureVal_ok rfl) ((List.Sublist.cons_cons _ (List.Sublist.cons_cons _ (List.Sublist.cons_cons _ (List.Sublist.cons_cons _ (List.Sublist.cons _ (List.Sublist.refl _))))))) rfl rfl rfl ?_
        refine ExD.take (i := 2) rfl (by kernel_rfl) (fr_load rfl rfl rfl rfl (CellO.blk (i := 1) rfl rfl)) ((List.Sublist.cons_cons _ (List.Sublist.cons_cons _ (List.Sublist.cons_cons _ (List.Sublist.cons_cons _ (List.Sublist.cons _ (List.Sublist.refl _))))))) rfl rfl rfl ?_
        refine ExD.take (i := 3) rfl (by kernel_rfl) (pureVal_ok rfl) ((List.Sublist.cons_cons _ (List.Sublist.cons_cons _ (List.Sublist.cons_cons _ (List.Sublist.cons_cons _ (List.Sublist.cons _ (List.Sublist.refl _))))))) rfl rfl rfl ?_
        refine ExD.take (i := 4) rfl (by kernel_rfl) (fr_loadN rfl rfl rfl rfl rfl (SegO.part (i := 1) 8 rfl)) ((List.Sublist.cons_cons _ (List.Sublist.cons_cons _ (List.Sublist.cons_cons _ (List.Sublist.cons_cons _ (List.Sublist.cons _ (List.Sublist.refl _))))))) rfl rfl rfl ?_
        refine ExD.take (i := 5) rfl (by kernel_rfl) (pureVal_ok rfl) ((List.Sublist.cons_cons _ (List.Sublist.cons_cons _ (List.Sublist.cons_cons _ (List.Sublist.cons_cons _ (List.Sublist.cons _ (List.Sublist.refl _))))))) rfl rfl rfl ?_
        refine ExD.take (i := 6) rfl (by kernel_rfl) (fr_load rfl rfl rfl rfl (CellO.blk (i := 1) rfl rfl)) ((List.Sublist.cons_cons _ (List.Sublist.cons_cons _ (List.Sublist.cons_cons _ (List.Sublist.cons_cons _ (List.Sublist.cons _ (List.Sublist.refl _))))))) rfl rfl rfl ?_
        refine ExD.take (i := 7) rfl (by kernel_rfl) (pureVal_ok rfl) ((List.Sublist.cons_cons _ (List.Sublist.cons_cons _ (List.Sublist.cons_cons _ (List.Sublist.cons_cons _ (List.Sublist.cons _ (List.Sublist.refl _))))))) rfl rfl rfl ?_
        refine ExD.take (i := 8) rfl (by kernel_rfl) (fr_loadN rfl rfl rfl rfl rfl (SegO.part (i := 1) 8 rfl)) ((List.Sublist.cons_cons _ (List.Sublist.cons_cons _ (List.Sublist.cons_cons _ (List.Sublist.cons_cons _ (List.Sublist.cons _ (List.Sublist.refl _))))))) rfl rfl rfl ?_
        refine ExD.op (i := 9) rfl (by kernel_rfl) rfl (op_ret rfl rfl rfl (c_l07Check _ (by omega) ((doV (runD d l k) (l.getD k zA)).1).shows (by assumption)) (fun _ _ => trivial) rfl rfl (fun x14 hx14 => ⟨(List.Sublist.cons_cons _ (List.Sublist.cons_cons _ (List.Sublist.cons_cons _ (List.Sublist.cons_cons _ (List.Sublist.cons _ (List.Sublist.refl _)))))), ?_⟩))
        refine ExD.take (i := 10) rfl (by kernel_rfl) (fr_build (cells := encT (ticV (doV (runD d l k) (l.getD k zA)).1)) rfl rfl rfl (by kernel_rfl)) ((List.Sublist.cons_cons _ (List.Sublist.cons_cons _ (List.Sublist.cons_cons _ (List.Sublist.cons_cons _ (List.Sublist.cons _ (List.Sublist.refl _))))))) rfl rfl rfl ?_
        refine ExD.op (i := 11) rfl (by kernel_rfl) rfl (op_buildSlice (sz := 10) rfl rfl rfl rfl rfl rfl rfl rfl (by decide) rfl rfl rfl (fun r15 => ⟨(List.Sublist.cons _ (List.Sublist.cons_cons _ (List.Sublist.cons_cons _ (List.Sublist.cons_cons _ (List.Sublist.cons_cons _ (List.Sublist.cons _ (List.Sublist.refl _))))))), ?_⟩))
        refine ExD.op (i := 12) rfl (by kernel_rfl) rfl (op_append (sz := 10) (bytes := 24) (i := 5) rfl rfl rfl rfl (Reads.row (i := 0) rfl) rfl (fun e => nomatch e) rfl rfl rfl rfl (by constructor <;> first | omega | (unfold maxLen; omega)) rfl rfl (fun A16 cA16 => ⟨(List.Sublist.cons _ (List.Sublist.cons_cons _ (List.Sublist.cons_cons _ (List.Sublist.cons_cons _ (List.Sublist.cons_cons _ (List.Sublist.cons _ (List.Sublist.refl _))))))), ?_⟩))
        refine ExD.take (i := 13) rfl (by kernel_rfl) (pureVal_ok rfl) ((List.Sublist.cons _ (List.Sublist.cons_cons _ (List.Sublist.cons_cons _ (List.Sublist.cons_cons _ (List.Sublist.cons_cons _ (List.Sublist.cons _ (List.Sublist.refl _)))))))) rfl rfl rfl ?_
        refine ExD.done (by kernel_rfl) ?_
        refine Ex.region (ExL.pures 1 rfl ?_)
        refine ExL.free (by first | exact fr_add64 rfl rfl rfl (by omega) | exact fr_add rfl rfl rfl) rfl rfl rfl ?_
        refine ExL.pures 1 rfl ?_
        refine ExL.nil ?_
        refine HandB.of (k + 1) (A11) (cA11) (A16) (cA16) 7 [2, 3, 4, 5, 6] ⟨(by rw [notesL, List.length_append]; rfl), (by first | (rw [tl_5 (by assumption), List.length_append]; rfl) | (rw [tl_n (by assumption)]; first | done | rfl)), rfl, agI (by rw [cd_go (by assumption)]), rfl, trivial⟩ ⟨rfl, rfl, rfl, rfl, rfl, rfl, trivial⟩ (by first | (rw [show runD d l (k + 1) = (doV (runD d l k) (l.getD k zA)).1 from rfl, do_stack, notesL, List.length_append, List.flatMap_append, tl_5 (by assumption), List.length_append, List.flatMap_append]; rfl) | (rw [show runD d l (k + 1) = (doV (runD d l k) (l.getD k zA)).1 from rfl, do_stack, notesL, List.length_append, List.flatMap_append, tl_n (by assumption)]; rfl)) rfl (by omega) (by omega)
      · refine ExL.nil ?_
        refine Ex.cond_f rfl ?_
        refine Ex.skip ?_
        refine Ex.region (ExL.pures 1 rfl ?_)
        refine ExL.free (by first | exact fr_add64 rfl rfl rfl (by omega) | exact fr_add rfl rfl rfl) rfl rfl rfl ?_
        refine ExL.pures 1 rfl ?_
        refine ExL.nil ?_
        refine HandB.of (k + 1) (A11) (cA11) (A2) (c2) 6 [1, 2, 3, 4, 5] ⟨(by rw [notesL, List.length_append]; rfl), (by first | (rw [tl_5 (by assumption), List.length_append]; rfl) | (rw [tl_n (by assumption)]; first | done | rfl)), rfl, agI (by rw [cd_go (by assumption)]), rfl, trivial⟩ ⟨rfl, rfl, rfl, rfl, rfl, rfl, trivial⟩ (by first | (rw [show runD d l (k + 1) = (doV (runD d l k) (l.getD k zA)).1 from rfl, do_stack, notesL, List.length_append, List.flatMap_append, tl_5 (by assumption), List.length_append, List.flatMap_append]; rfl) | (rw [show runD d l (k + 1) = (doV (runD d l k) (l.getD k zA)).1 from rfl, do_stack, notesL, List.length_append, List.flatMap_append, tl_n (by assumption)]; rfl)) rfl (by omega) (by omega)
    · refine ExL.pures 1 rfl ?_
      refine ExL.nil ?_
      refine Ex.cond_f rfl ?_
      refine Ex.exit ?_
      refine Ex.seq ?_
      refine Ex.regSeq (ExL.pures 1 rfl ?_)
      refine ExL.eql rfl rfl rfl rfl rfl rfl (fun h18 => ?_) (fun h18 => ?_)
      · refine ExL.pures 2 rfl ?_
        refine ExL.gtr rfl rfl rfl rfl rfl rfl (fun h19 => ?_) (fun h19 => ?_)
        · refine ExL.pures 1 rfl ?_
          refine ExL.nil ?_
          refine Ex.cond_t rfl ?_
          refine Ex.region (ExL.pures 1 rfl ?_)
          refine ExL.nil ?_
          refine Ex.seq ?_
          refine Ex.regSeq (ExL.pures 1 rfl ?_)
          refine ExL.neq rfl rfl rfl rfl rfl rfl (fun h20 => ?_) (fun h20 => ?_)
          · refine ExL.nil ?_
            refine Ex.cond_t rfl ?_
            refine Ex.regSeq (ExL.pures 0 rfl ?_)
            refine ExL.free (fr_build rfl rfl rfl rfl) rfl rfl rfl ?_
            refine ExL.op rfl (op_buildSlice (sz := 11) rfl rfl rfl rfl rfl rfl rfl rfl (by decide) rfl rfl rfl (fun r21 => ?_))
            refine ExL.op rfl (op_buildSlice (sz := 10) rfl rfl rfl rfl rfl rfl rfl rfl (by decide) rfl rfl rfl (fun r22 => ?_))
            refine ExL.pures 1 rfl ?_
            refine ExL.op rfl (op_storeC (i := 6) rfl rfl rfl rfl rfl rfl rfl rfl rfl rfl ?_)
            refine ExL.pures 3 rfl ?_
            refine ExL.nil ?_
            refine Ex.nilRow 5 1 ?_
            refine Ex.ret ?_
            refine RetQ.mk ((none, 0), ((some ⟨r21, 0, none⟩), 0), ((some ⟨r22, 0, none⟩), 0)) rfl (.cell rfl (.many rfl rfl rfl (SegO.whole (i := 7) rfl)) (.tmp rfl (.tmp rfl (.tmp rfl .nil)))) (t4 (by first | (exfalso; omega) | (rw [rv_cd (k := k) (by omega) (by assumption)]; first | done | rfl | (rw [runD_stack]; rfl)) | (rw [rv_cover (k := k) (by omega) (by omega) (by assumption) (by assumption)]; first | done | rfl | (rw [runD_stack]; rfl)) | (rw [rv_cok (k := k) (by omega) (by omega) (by assumption) (by assumption)]; first | done | rfl | (rw [runD_stack]; rfl))) (by first | (exfalso; omega) | (rw [rv_cd (k := k) (by omega) (by assumption)]; first | done | rfl) | (rw [rv_cover (k := k) (by omega) (by omega) (by assumption) (by assumption)]; first | done | rfl) | (rw [rv_cok (k := k) (by omega) (by omega) (by assumption) (by assumption)]; first | done | rfl)) (by first | (exfalso; omega) | (rw [rv_cd (k := k) (by omega) (by assumption)]; first | done | rfl) | (rw [rv_cover (k := k) (by omega) (by omega) (by assumption) (by assumption)]; first | done | rfl) | (rw [rv_cok (k := k) (by omega) (by omega) (by assumption) (by assumption)]; first | done | rfl)) (by first | (exfalso; omega) | (rw [rv_cd (k := k) (by omega) (by assumption)]; first | done | rfl) | (rw [rv_cover (k := k) (by omega) (by omega) (by assumption) (by assumption)]; first | done | rfl) | (rw [rv_cok (k := k) (by omega) (by omega) (by assumption) (by assumption)]; first | done | rfl))) [0, 2, 1] (by first | (exfalso; omega) | (rw [rv_cd (k := k) (by omega) (by assumption)]; first | done | rfl | (rw [runD_stack]; rfl)) | (rw [rv_cover (k := k) (by omega) (by omega) (by assumption) (by assumption)]; first | done | rfl | (rw [runD_stack]; rfl)) | (rw [rv_cok (k := k) (by omega) (by omega) (by assumption) (by assumption)]; first | done | rfl | (rw [runD_stack]; rfl))) rfl (trivial)
          · refine ExL.nil ?_
            refine Ex.cond_f rfl ?_
            refine Ex.skip ?_
            refine Ex.regSeq (ExL.pures 0 rfl ?_)
            refine ExL.free (fr_loadN rfl rfl rfl rfl rfl (SegO.whole (i := 0) rfl)) rfl rfl rfl ?_
            refine ExL.pures 2 rfl ?_
            refine ExL.op rfl (op_storeC (i := 4) rfl rfl rfl rfl rfl rfl rfl rfl rfl rfl ?_)
            refine ExL.pures 3 rfl ?_
            refine ExL.nil ?_
            refine Ex.ret ?_
            refine RetQ.mk ((x2.1, x2.2), (A, c), (A2, c2)) rfl (.cell rfl (.many rfl rfl rfl (SegO.whole (i := 4) rfl)) (.tmp rfl (.tmp rfl (.tmp rfl .nil)))) (t4 (by first | (exfalso; omega) | (rw [rv_cd (k := k) (by omega) (by assumption)]; first | done | rfl | (rw [runD_stack]; rfl)) | (rw [rv_cover (k := k) (by omega) (by omega) (by assumption) (by assumption)]; first | done | rfl | (rw [runD_stack]; rfl)) | (rw [rv_cok (k := k) (by omega) (by omega) (by assumption) (by assumption)]; first | done | rfl | (rw [runD_stack]; rfl))) (by first | (exfalso; omega) | (rw [rv_cd (k := k) (by omega) (by assumption)]; first | done | rfl) | (rw [rv_cover (k := k) (by omega) (by omega) (by assumption) (by assumption)]; first | done | rfl) | (rw [rv_cok (k := k) (by omega) (by omega) (by assumption) (by assumption)]; first | done | rfl)) (by first | (exfalso; omega) | (rw [rv_cd (k := k) (by omega) (by assumption)]; first | done | rfl) | (rw [rv_cover (k := k) (by omega) (by omega) (by assumption) (by assumption)]; first | done | rfl) | (rw [rv_cok (k := k) (by omega) (by omega) (by assumption) (by assumption)]; first | done | rfl)) (by first | (exfalso; omega) | (rw [rv_cd (k := k) (by omega) (by assumption)]; first | done | rfl) | (rw [rv_cover (k := k) (by omega) (by omega) (by assumption) (by assumption)]; first | done | rfl) | (rw [rv_cok (k := k) (by omega) (by omega) (by assumption) (by assumption)]; first | done | rfl))) [1, 2, 3] (by first | (exfalso; omega) | (rw [rv_cd (k := k) (by omega) (by assumption)]; first | done | rfl | (rw [runD_stack]; rfl)) | (rw [rv_cover (k := k) (by omega) (by omega) (by assumption) (by assumption)]; first | done | rfl | (rw [runD_stack]; rfl)) | (rw [rv_cok (k := k) (by omega) (by omega) (by assumption) (by assumption)]; first | done | rfl | (rw [runD_stack]; rfl))) rfl (trivial)
        · refine ExL.pures 1 rfl ?_
          refine ExL.nil ?_
          refine Ex.cond_f rfl ?_
          refine Ex.skip ?_
          refine Ex.seq ?_
          refine Ex.regSeq (ExL.pures 1 rfl ?_)
          refine ExL.neq rfl rfl rfl rfl rfl rfl (fun h23 => ?_) (fun h23 => ?_)
          · refine ExL.nil ?_
            refine Ex.cond_t rfl ?_
            refine Ex.regSeq (ExL.pures 0 rfl ?_)
            refine ExL.free (fr_build rfl rfl rfl rfl) rfl rfl rfl ?_
            refine ExL.op rfl (op_buildSlice (sz := 11) rfl rfl rfl rfl rfl rfl rfl rfl (by decide) rfl rfl rfl (fun r24 => ?_))
            refine ExL.op rfl (op_buildSlice (sz := 10) rfl rfl rfl rfl rfl rfl rfl rfl (by decide) rfl rfl rfl (fun r25 => ?_))
            refine ExL.pures 1 rfl ?_
            refine ExL.op rfl (op_storeC (i := 6) rfl rfl rfl rfl rfl rfl rfl rfl rfl rfl ?_)
            refine ExL.pures 3 rfl ?_
            refine ExL.nil ?_
            refine Ex.nilRow 5 1 ?_
            refine Ex.ret ?_
            refine RetQ.mk ((none, 0), ((some ⟨r24, 0, none⟩), 0), ((some ⟨r25, 0, none⟩), 0)) rfl (.cell rfl (.many rfl rfl rfl (SegO.whole (i := 7) rfl)) (.tmp rfl (.tmp rfl (.tmp rfl .nil)))) (t4 (by first | (exfalso; omega) | (rw [rv_cd (k := k) (by omega) (by assumption)]; first | done | rfl | (rw [runD_stack]; rfl)) | (rw [rv_cover (k := k) (by omega) (by omega) (by assumption) (by assumption)]; first | done | rfl | (rw [runD_stack]; rfl)) | (rw [rv_cok (k := k) (by omega) (by omega) (by assumption) (by assumption)]; first | done | rfl | (rw [runD_stack]; rfl))) (by first | (exfalso; omega) | (rw [rv_cd (k := k) (by omega) (by assumption)]; first | done | rfl) | (rw [rv_cover (k := k) (by omega) (by omega) (by assumption) (by assumption)]; first | done | rfl) | (rw [rv_cok (k := k) (by omega) (by omega) (by assumption) (by assumption)]; first | done | rfl)) (by first | (exfalso; omega) | (rw [rv_cd (k := k) (by omega) (by assumption)]; first | done | rfl) | (rw [rv_cover (k := k) (by omega) (by omega) (by assumption) (by assumption)]; first | done | rfl) | (rw [rv_cok (k := k) (by omega) (by omega) (by assumption) (by assumption)]; first | done | rfl)) (by first | (exfalso; omega) | (rw [rv_cd (k := k) (by omega) (by assumption)]; first | done | rfl) | (rw [rv_cover (k := k) (by omega) (by omega) (by assumption) (by assumption)]; first | done | rfl) | (rw [rv_cok (k := k) (by omega) (by omega) (by assumption) (by assumption)]; first | done | rfl))) [0, 2, 1] (by first | (exfalso; omega) | (rw [rv_cd (k := k) (by omega) (by assumption)]; first | done | rfl | (rw [runD_stack]; rfl)) | (rw [rv_cover (k := k) (by omega) (by omega) (by assumption) (by assumption)]; first | done | rfl | (rw [runD_stack]; rfl)) | (rw [rv_cok (k := k) (by omega) (by omega) (by assumption) (by assumption)]; first | done | rfl | (rw [runD_stack]; rfl))) rfl (trivial)
          · refine ExL.nil ?_
            refine Ex.cond_f rfl ?_
            refine Ex.skip ?_
            refine Ex.regSeq (ExL.pures 0 rfl ?_)
            refine ExL.free (fr_loadN rfl rfl rfl rfl rfl (SegO.whole (i := 0) rfl)) rfl rfl rfl ?_
            refine ExL.pures 2 rfl ?_
            refine ExL.op rfl (op_storeC (i := 4) rfl rfl rfl rfl rfl rfl rfl rfl rfl rfl ?_)
            refine ExL.pures 3 rfl ?_
            refine ExL.nil ?_
            refine Ex.ret ?_
            refine RetQ.mk ((x2.1, x2.2), (A, c), (A2, c2)) rfl (.cell rfl (.many rfl rfl rfl (SegO.whole (i := 4) rfl)) (.tmp rfl (.tmp rfl (.tmp rfl .nil)))) (t4 (by first | (exfalso; omega) | (rw [rv_cd (k := k) (by omega) (by assumption)]; first | done | rfl | (rw [runD_stack]; rfl)) | (rw [rv_cover (k := k) (by omega) (by omega) (by assumption) (by assumption)]; first | done | rfl | (rw [runD_stack]; rfl)) | (rw [rv_cok (k := k) (by omega) (by omega) (by assumption) (by assumption)]; first | done | rfl | (rw [runD_stack]; rfl))) (by first | (exfalso; omega) | (rw [rv_cd (k := k) (by omega) (by assumption)]; first | done | rfl) | (rw [rv_cover (k := k) (by omega) (by omega) (by assumption) (by assumption)]; first | done | rfl) | (rw [rv_cok (k := k) (by omega) (by omega) (by assumption) (by assumption)]; first | done | rfl)) (by first | (exfalso; omega) | (rw [rv_cd (k := k) (by omega) (by assumption)]; first | done | rfl) | (rw [rv_cover (k := k) (by omega) (by omega) (by assumption) (by assumption)]; first | done | rfl) | (rw [rv_cok (k := k) (by omega) (by omega) (by assumption) (by assumption)]; first | done | rfl)) (by first | (exfalso; omega) | (rw [rv_cd (k := k) (by omega) (by assumption)]; first | done | rfl) | (rw [rv_cover (k := k) (by omega) (by omega) (by assumption) (by assumption)]; first | done | rfl) | (rw [rv_cok (k := k) (by omega) (by omega) (by assumption) (by assumption)]; first | done | rfl))) [1, 2, 3] (by first | (exfalso; omega) | (rw [rv_cd (k := k) (by omega) (by assumption)]; first | done | rfl | (rw [runD_stack]; rfl)) | (rw [rv_cover (k := k) (by omega) (by omega) (by assumption) (by assumption)]; first | done | rfl | (rw [runD_stack]; rfl)) | (rw [rv_cok (k := k) (by omega) (by omega) (by assumption) (by assumption)]; first | done | rfl | (rw [runD_stack]; rfl))) rfl (trivial)
      · refine ExL.pures 4 rfl ?_
        refine ExL.nil ?_
        refine Ex.cond_f rfl ?_
        refine Ex.skip ?_
        refine Ex.seq ?_
        refine Ex.regSeq (ExL.pures 1 rfl ?_)
        refine ExL.neq rfl rfl rfl rfl rfl rfl (fun h26 => ?_) (fun h26 => ?_)
        · refine ExL.nil ?_
          refine Ex.cond_t rfl ?_
          refine Ex.regSeq (ExL.pures 0 rfl ?_)
          refine ExL.free (fr_build rfl rfl rfl rfl) rfl rfl rfl ?_
          refine ExL.op rfl (op_buildSlice (sz := 11) rfl rfl rfl rfl rfl rfl rfl rfl (by decide) rfl rfl rfl (fun r27 => ?_))
          refine ExL.op rfl (op_buildSlice (sz := 10) rfl rfl rfl rfl rfl rfl rfl rfl (by decide) rfl rfl rfl (fun r28 => ?_))
          refine ExL.pures 1 rfl ?_
          refine ExL.op rfl (op_storeC (i := 6) rfl rfl rfl rfl rfl rfl rfl rfl rfl rfl ?_)
          refine ExL.pures 3 rfl ?_
          refine ExL.nil ?_
          refine Ex.nilRow 5 1 ?_
          refine Ex.ret ?_
          refine RetQ.mk ((none, 0), ((some ⟨r27, 0, none⟩), 0), ((some ⟨r28, 0, none⟩), 0)) rfl (.cell rfl (.many rfl rfl rfl (SegO.whole (i := 7) rfl)) (.tmp rfl (.tmp rfl (.tmp rfl .nil)))) (t4 (by first | (exfalso; omega) | (rw [rv_cd (k := k) (by omega) (by assumption)]; first | done | rfl | (rw [runD_stack]; rfl)) | (rw [rv_cover (k := k) (by omega) (by omega) (by assumption) (by assumption)]; first | done | rfl | (rw [runD_stack]; rfl)) | (rw [rv_cok (k := k) (by omega) (by omega) (by assumption) (by assumption)]; first | done | rfl | (rw [runD_stack]; rfl))) (by first | (exfalso; omega) | (rw [rv_cd (k := k) (by omega) (by assumption)]; first | done | rfl) | (rw [rv_cover (k := k) (by omega) (by omega) (by assumption) (by assumption)]; first | done | rfl) | (rw [rv_cok (k := k) (by omega) (by omega) (by assumption) (by assumption)]; first | done | rfl)) (by first | (exfalso; omega) | (rw [rv_cd (k := k) (by omega) (by assumption)]; first | done | rfl) | (rw [rv_cover (k := k) (by omega) (by omega) (by assumption) (by assumption)]; first | done | rfl) | (rw [rv_cok (k := k) (by omega) (by omega) (by assumption) (by assumption)]; first | done | rfl)) (by first | (exfalso; omega) | (rw [rv_cd (k := k) (by omega) (by assumption)]; first | done | rfl) | (rw [rv_cover (k := k) (by omega) (by omega) (by assumption) (by assumption)]; first | done | rfl) | (rw [rv_cok (k := k) (by omega) (by omega) (by assumption) (by assumption)]; first | done | rfl))) [0, 2, 1] (by first | (exfalso; omega) | (rw [rv_cd (k := k) (by omega) (by assumption)]; first | done | rfl | (rw [runD_stack]; rfl)) | (rw [rv_cover (k := k) (by omega) (by omega) (by assumption) (by assumption)]; first | done | rfl | (rw [runD_stack]; rfl)) | (rw [rv_cok (k := k) (by omega) (by omega) (by assumption) (by assumption)]; first | done | rfl | (rw [runD_stack]; rfl))) rfl (trivial)
        · refine ExL.nil ?_
          refine Ex.cond_f rfl ?_
          refine Ex.skip ?_
          refine Ex.regSeq (ExL.pures 0 rfl ?_)
          refine ExL.free (fr_loadN rfl rfl rfl rfl rfl (SegO.whole (i := 0) rfl)) rfl rfl rfl ?_
          refine ExL.pures 2 rfl ?_
          refine ExL.op rfl (op_storeC (i := 4) rfl rfl rfl rfl rfl rfl rfl rfl rfl rfl ?_)
          refine ExL.pures 3 rfl ?_
          refine ExL.nil ?_
          refine Ex.ret ?_
          refine RetQ.mk ((x2.1, x2.2), (A, c), (A2, c2)) rfl (.cell rfl (.many rfl rfl rfl (SegO.whole (i := 4) rfl)) (.tmp rfl (.tmp rfl (.tmp rfl .nil)))) (t4 (by first | (exfalso; omega) | (rw [rv_cd (k := k) (by omega) (by assumption)]; first | done | rfl | (rw [runD_stack]; rfl)) | (rw [rv_cover (k := k) (by omega) (by omega) (by assumption) (by assumption)]; first | done | rfl | (rw [runD_stack]; rfl)) | (rw [rv_cok (k := k) (by omega) (by omega) (by assumption) (by assumption)]; first | done | rfl | (rw [runD_stack]; rfl))) (by first | (exfalso; omega) | (rw [rv_cd (k := k) (by omega) (by assumption)]; first | done | rfl) | (rw [rv_cover (k := k) (by omega) (by omega) (by assumption) (by assumption)]; first | done | rfl) | (rw [rv_cok (k := k) (by omega) (by omega) (by assumption) (by assumption)]; first | done | rfl)) (by first | (exfalso; omega) | (rw [rv_cd (k := k) (by omega) (by assumption)]; first | done | rfl) | (rw [rv_cover (k := k) (by omega) (by omega) (by assumption) (by assumption)]; first | done | rfl) | (rw [rv_cok (k := k) (by omega) (by omega) (by assumption) (by assumption)]; first | done | rfl)) (by first | (exfalso; omega) | (rw [rv_cd (k := k) (by omega) (by assumption)]; first | done | rfl) | (rw [rv_cover (k := k) (by omega) (by omega) (by assumption) (by assumption)]; first | done | rfl) | (rw [rv_cok (k := k) (by omega) (by omega) (by assumption) (by assumption)]; first | done | rfl))) [1, 2, 3] (by first | (exfalso; omega) | (rw [rv_cd (k := k) (by omega) (by assumption)]; first | done | rfl | (rw [runD_stack]; rfl)) | (rw [rv_cover (k := k) (by omega) (by omega) (by assumption) (by assumption)]; first | done | rfl | (rw [runD_stack]; rfl)) | (rw [rv_cok (k := k) (by omega) (by omega) (by assumption) (by assumption)]; first | done | rfl | (rw [runD_stack]; rfl))) rfl (trivial)
  · refine ExL.pures 4 rfl ?_
    refine ExL.nil ?_
    refine Ex.cond_f rfl ?_
    refine Ex.exit ?_
    refine Ex.seq ?_
    refine Ex.regSeq (ExL.pures 1 rfl ?_)
    refine ExL.eql rfl rfl rfl rfl rfl rfl (fun h29 => ?_) (fun h29 => ?_)
    · refine ExL.pures 2 rfl ?_
      refine ExL.gtr rfl rfl rfl rfl rfl rfl (fun h30 => ?_) (fun h30 => ?_)
      · refine ExL.pures 1 rfl ?_
        refine ExL.nil ?_
        refine Ex.cond_t rfl ?_
        refine Ex.region (ExL.pures 1 rfl ?_)
        refine ExL.nil ?_
        refine Ex.seq ?_
        refine Ex.regSeq (ExL.pures 1 rfl ?_)
        refine ExL.neq rfl rfl rfl rfl rfl rfl (fun h31 => ?_) (fun h31 => ?_)
        · refine ExL.nil ?_
          refine Ex.cond_t rfl ?_
          refine Ex.regSeq (ExL.pures 0 rfl ?_)
          refine ExL.free (fr_build rfl rfl rfl rfl) rfl rfl rfl ?_
          refine ExL.op rfl (op_buildSlice (sz := 11) rfl rfl rfl rfl rfl rfl rfl rfl (by decide) rfl rfl rfl (fun r32 => ?_))
          refine ExL.op rfl (op_buildSlice (sz := 10) rfl rfl rfl rfl rfl rfl rfl rfl (by decide) rfl rfl rfl (fun r33 => ?_))
          refine ExL.pures 1 rfl ?_
          refine ExL.op rfl (op_storeC (i := 6) rfl rfl rfl rfl rfl rfl rfl rfl rfl rfl ?_)
          refine ExL.pures 3 rfl ?_
          refine ExL.nil ?_
          refine Ex.nilRow 5 1 ?_
          refine Ex.ret ?_
          refine RetQ.mk ((none, 0), ((some ⟨r32, 0, none⟩), 0), ((some ⟨r33, 0, none⟩), 0)) rfl (.cell rfl (.many rfl rfl rfl (SegO.whole (i := 7) rfl)) (.tmp rfl (.tmp rfl (.tmp rfl .nil)))) (t4 (by first | (exfalso; omega) | (rw [rv_cd (k := k) (by omega) (by assumption)]; first | done | rfl | (rw [runD_stack]; rfl)) | (rw [rv_cover (k := k) (by omega) (by omega) (by assumption) (by assumption)]; first | done | rfl | (rw [runD_stack]; rfl)) | (rw [rv_cok (k := k) (by omega) (by omega) (by assumption) (by assumption)]; first | done | rfl | (rw [runD_stack]; rfl))) (by first | (exfalso; omega) | (rw [rv_cd (k := k) (by omega) (by assumption)]; first | done | rfl) | (rw [rv_cover (k := k) (by omega) (by omega) (by assumption) (by assumption)]; first | done | rfl) | (rw [rv_cok (k := k) (by omega) (by omega) (by assumption) (by assumption)]; first | done | rfl)) (by first | (exfalso; omega) | (rw [rv_cd (k := k) (by omega) (by assumption)]; first | done | rfl) | (rw [rv_cover (k := k) (by omega) (by omega) (by assumption) (by assumption)]; first | done | rfl) | (rw [rv_cok (k := k) (by omega) (by omega) (by assumption) (by assumption)]; first | done | rfl)) (by first | (exfalso; omega) | (rw [rv_cd (k := k) (by omega) (by assumption)]; first | done | rfl) | (rw [rv_cover (k := k) (by omega) (by omega) (by assumption) (by assumption)]; first | done | rfl) | (rw [rv_cok (k := k) (by omega) (by omega) (by assumption) (by assumption)]; first | done | rfl))) [0, 2, 1] (by first | (exfalso; omega) | (rw [rv_cd (k := k) (by omega) (by assumption)]; first | done | rfl | (rw [runD_stack]; rfl)) | (rw [rv_cover (k := k) (by omega) (by omega) (by assumption) (by assumption)]; first | done | rfl | (rw [runD_stack]; rfl)) | (rw [rv_cok (k := k) (by omega) (by omega) (by assumption) (by assumption)]; first | done | rfl | (rw [runD_stack]; rfl))) rfl (trivial)
        · refine ExL.nil ?_
          refine Ex.cond_f rfl ?_
          refine Ex.skip ?_
          refine Ex.regSeq (ExL.pures 0 rfl ?_)
          refine ExL.free (fr_loadN rfl rfl rfl rfl rfl (SegO.whole (i := 0) rfl)) rfl rfl rfl ?_
          refine ExL.pures 2 rfl ?_
          refine ExL.op rfl (op_storeC (i := 4) rfl rfl rfl rfl rfl rfl rfl rfl rfl rfl ?_)
          refine ExL.pures 3 rfl ?_
          refine ExL.nil ?_
          refine Ex.ret ?_
          refine RetQ.mk ((x2.1, x2.2), (A, c), (A2, c2)) rfl (.cell rfl (.many rfl rfl rfl (SegO.whole (i := 4) rfl)) (.tmp rfl (.tmp rfl (.tmp rfl .nil)))) (t4 (by first | (exfalso; omega) | (rw [rv_cd (k := k) (by omega) (by assumption)]; first | done | rfl | (rw [runD_stack]; rfl)) | (rw [rv_cover (k := k) (by omega) (by omega) (by assumption) (by assumption)]; first | done | rfl | (rw [runD_stack]; rfl)) | (rw [rv_cok (k := k) (by omega) (by omega) (by assumption) (by assumption)]; first | done | rfl | (rw [runD_stack]; rfl))) (by first | (exfalso; omega) | (rw [rv_cd (k := k) (by omega) (by assumption)]; first | done | rfl) | (rw [rv_cover (k := k) (by omega) (by omega) (by assumption) (by assumption)]; first | done | rfl) | (rw [rv_cok (k := k) (by omega) (by omega) (by assumption) (by assumption)]; first | done | rfl)) (by first | (exfalso; omega) | (rw [rv_cd (k := k) (by omega) (by assumption)]; first | done | rfl) | (rw [rv_cover (k := k) (by omega) (by omega) (by assumption) (by assumption)]; first | done | rfl) | (rw [rv_cok (k := k) (by omega) (by omega) (by assumption) (by assumption)]; first | done | rfl)) (by first | (exfalso; omega) | (rw [rv_cd (k := k) (by omega) (by assumption)]; first | done | rfl) | (rw [rv_cover (k := k) (by omega) (by omega) (by assumption) (by assumption)]; first | done | rfl) | (rw [rv_cok (k := k) (by omega) (by omega) (by assumption) (by assumption)]; first | done | rfl))) [1, 2, 3] (by first | (exfalso; omega) | (rw [rv_cd (k := k) (by omega) (by assumption)]; first | done | rfl | (rw [runD_stack]; rfl)) | (rw [rv_cover (k := k) (by omega) (by omega) (by assumption) (by assumption)]; first | done | rfl | (rw [runD_stack]; rfl)) | (rw [rv_cok (k := k) (by omega) (by omega) (by assumption) (by assumption)]; first | done | rfl | (rw [runD_stack]; rfl))) rfl (trivial)
      · refine ExL.pures 1 rfl ?_
        refine ExL.nil ?_
        refine Ex.cond_f rfl ?_
        refine Ex.skip ?_
        refine Ex.seq ?_
        refine Ex.regSeq (ExL.pures 1 rfl ?_)
        refine ExL.neq rfl rfl rfl rfl rfl rfl (fun h34 => ?_) (fun h34 => ?_)
        · refine ExL.nil ?_
          refine Ex.cond_t rfl ?_
          refine Ex.regSeq (ExL.pures 0 rfl ?_)
          refine ExL.free (fr_build rfl rfl rfl rfl) rfl rfl rfl ?_
          refine ExL.op rfl (op_buildSlice (sz := 11) rfl rfl rfl rfl rfl rfl rfl rfl (by decide) rfl rfl rfl (fun r35 => ?_))
          refine ExL.op rfl (op_buildSlice (sz := 10) rfl rfl rfl rfl rfl rfl rfl rfl (by decide) rfl rfl rfl (fun r36 => ?_))
          refine ExL.pures 1 rfl ?_
          refine ExL.op rfl (op_storeC (i := 6) rfl rfl rfl rfl rfl rfl rfl rfl rfl rfl ?_)
          refine ExL.pures 3 rfl ?_
          refine ExL.nil ?_
          refine Ex.nilRow 5 1 ?_
          refine Ex.ret ?_
          refine RetQ.mk ((none, 0), ((some ⟨r35, 0, none⟩), 0), ((some ⟨r36, 0, none⟩), 0)) rfl (.cell rfl (.many rfl rfl rfl (SegO.whole (i := 7) rfl)) (.tmp rfl (.tmp rfl (.tmp rfl .nil)))) (t4 (by first | (exfalso; omega) | (rw [rv_cd (k := k) (by omega) (by assumption)]; first | done | rfl | (rw [runD_stack]; rfl)) | (rw [rv_cover (k := k) (by omega) (by omega) (by assumption) (by assumption)]; first | done | rfl | (rw [runD_stack]; rfl)) | (rw [rv_cok (k := k) (by omega) (by omega) (by assumption) (by assumption)]; first | done | rfl | (rw [runD_stack]; rfl))) (by first | (exfalso; omega) | (rw [rv_cd (k := k) (by omega) (by assumption)]; first | done | rfl) | (rw [rv_cover (k := k) (by omega) (by omega) (by assumption) (by assumption)]; first | done | rfl) | (rw [rv_cok (k := k) (by omega) (by omega) (by assumption) (by assumption)]; first | done | rfl)) (by first | (exfalso; omega) | (rw [rv_cd (k := k) (by omega) (by assumption)]; first | done | rfl) | (rw [rv_cover (k := k) (by omega) (by omega) (by assumption) (by assumption)]; first | done | rfl) | (rw [rv_cok (k := k) (by omega) (by omega) (by assumption) (by assumption)]; first | done | rfl)) (by first | (exfalso; omega) | (rw [rv_cd (k := k) (by omega) (by assumption)]; first | done | rfl) | (rw [rv_cover (k := k) (by omega) (by omega) (by assumption) (by assumption)]; first | done | rfl) | (rw [rv_cok (k := k) (by omega) (by omega) (by assumption) (by assumption)]; first | done | rfl))) [0, 2, 1] (by first | (exfalso; omega) | (rw [rv_cd (k := k) (by omega) (by assumption)]; first | done | rfl | (rw [runD_stack]; rfl)) | (rw [rv_cover (k := k) (by omega) (by omega) (by assumption) (by assumption)]; first | done | rfl | (rw [runD_stack]; rfl)) | (rw [rv_cok (k := k) (by omega) (by omega) (by assumption) (by assumption)]; first | done | rfl | (rw [runD_stack]; rfl))) rfl (trivial)
        · refine ExL.nil ?_
          refine Ex.cond_f rfl ?_
          refine Ex.skip ?_
          refine Ex.regSeq (ExL.pures 0 rfl ?_)
          refine ExL.free (fr_loadN rfl rfl rfl rfl rfl (SegO.whole (i := 0) rfl)) rfl rfl rfl ?_
          refine ExL.pures 2 rfl ?_
          refine ExL.op rfl (op_storeC (i := 4) rfl rfl rfl rfl rfl rfl rfl rfl rfl rfl ?_)
          refine ExL.pures 3 rfl ?_
          refine ExL.nil ?_
          refine Ex.ret ?_
          refine RetQ.mk ((x2.1, x2.2), (A, c), (A2, c2)) rfl (.cell rfl (.many rfl rfl rfl (SegO.whole (i := 4) rfl)) (.tmp rfl (.tmp rfl (.tmp rfl .nil)))) (t4 (by first | (exfalso; omega) | (rw [rv_cd (k := k) (by omega) (by assumption)]; first | done | rfl | (rw [runD_stack]; rfl)) | (rw [rv_cover (k := k) (by omega) (by omega) (by assumption) (by assumption)]; first | done | rfl | (rw [runD_stack]; rfl)) | (rw [rv_cok (k := k) (by omega) (by omega) (by assumption) (by assumption)]; first | done | rfl | (rw [runD_stack]; rfl))) (by first | (exfalso; omega) | (rw [rv_cd (k := k) (by omega) (by assumption)]; first | done | rfl) | (rw [rv_cover (k := k) (by omega) (by omega) (by assumption) (by assumption)]; first | done | rfl) | (rw [rv_cok (k := k) (by omega) (by omega) (by assumption) (by assumption)]; first | done | rfl)) (by first | (exfalso; omega) | (rw [rv_cd (k := k) (by omega) (by assumption)]; first | done | rfl) | (rw [rv_cover (k := k) (by omega) (by omega) (by assumption) (by assumption)]; first | done | rfl) | (rw [rv_cok (k := k) (by omega) (by omega) (by assumption) (by assumption)]; first | done | rfl)) (by first | (exfalso; omega) | (rw [rv_cd (k := k) (by omega) (by assumption)]; first | done | rfl) | (rw [rv_cover (k := k) (by omega) (by omega) (by assumption) (by assumption)]; first | done | rfl) | (rw [rv_cok (k := k) (by omega) (by omega) (by assumption) (by assumption)]; first | done | rfl))) [1, 2, 3] (by first | (exfalso; omega) | (rw [rv_cd (k := k) (by omega) (by assumption)]; first | done | rfl | (rw [runD_stack]; rfl)) | (rw [rv_cover (k := k) (by omega) (by omega) (by assumption) (by assumption)]; first | done | rfl | (rw [runD_stack]; rfl)) | (rw [rv_cok (k := k) (by omega) (by omega) (by assumption) (by assumption)]; first | done | rfl | (rw [runD_stack]; rfl))) rfl (trivial)
    · refine ExL.pures 4 rfl ?_
      refine ExL.nil ?_
      refine Ex.cond_f rfl ?_
      refine Ex.skip ?_
      refine Ex.seq ?_
      refine Ex.regSeq (ExL.pures 1 rfl ?_)
      refine ExL.neq rfl rfl rfl rfl rfl rfl (fun h37 => ?_) (fun h37 => ?_)
      · refine ExL.nil ?_
        refine Ex.cond_t rfl ?_
        refine Ex.regSeq (ExL.pures 0 rfl ?_)
        refine ExL.free (fr_build rfl rfl rfl rfl) rfl rfl rfl ?_
        refine ExL.op rfl (op_buildSlice (sz := 11) rfl rfl rfl rfl rfl rfl rfl rfl (by decide) rfl rfl rfl (fun r38 => ?_))
        refine ExL.op rfl (op_buildSlice (sz := 10) rfl rfl rfl rfl rfl rfl rfl rfl (by decide) rfl rfl rfl (fun r39 => ?_))
        refine ExL.pures 1 rfl ?_
        refine ExL.op rfl (op_storeC (i := 6) rfl rfl rfl rfl rfl rfl rfl rfl rfl rfl ?_)
        refine ExL.pures 3 rfl ?_
        refine ExL.nil ?_
        refine Ex.nilRow 5 1 ?_
        refine Ex.ret ?_
        refine RetQ.mk ((none, 0), ((some ⟨r38, 0, none⟩), 0), ((some ⟨r39, 0, none⟩), 0)) rfl (.cell rfl (.many rfl rfl rfl (SegO.whole (i := 7) rfl)) (.tmp rfl (.tmp rfl (.tmp rfl .nil)))) (t4 (by first | (exfalso; omega) | (rw [rv_cd (k := k) (by omega) (by assumption)]; first | done | rfl | (rw [runD_stack]; rfl)) | (rw [rv_cover (k := k) (by omega) (by omega) (by assumption) (by assumption)]; first | done | rfl | (rw [runD_stack]; rfl)) | (rw [rv_cok (k := k) (by omega) (by omega) (by assumption) (by assumption)]; first | done | rfl | (rw [runD_stack]; rfl))) (by first | (exfalso; omega) | (rw [rv_cd (k := k) (by omega) (by assumption)]; first | done | rfl) | (rw [rv_cover (k := k) (by omega) (by omega) (by assumption) (by assumption)]; first | done | rfl) | (rw [rv_cok (k := k) (by omega) (by omega) (by assumption) (by assumption)]; first | done | rfl)) (by first | (exfalso; omega) | (rw [rv_cd (k := k) (by omega) (by assumption)]; first | done | rfl) | (rw [rv_cover (k := k) (by omega) (by omega) (by assumption) (by assumption)]; first | done | rfl) | (rw [rv_cok (k := k) (by omega) (by omega) (by assumption) (by assumption)]; first | done | rfl)) (by first | (exfalso; omega) | (rw [rv_cd (k := k) (by omega) (by assumption)]; first | done | rfl) | (rw [rv_cover (k := k) (by omega) (by omega) (by assumption) (by assumption)]; first | done | rfl) | (rw [rv_cok (k := k) (by omega) (by omega) (by assumption) (by assumption)]; first | done | rfl))) [0, 2, 1] (by first | (exfalso; omega) | (rw [rv_cd (k := k) (by omega) (by assumption)]; first | done | rfl | (rw [runD_stack]; rfl)) | (rw [rv_cover (k := k) (by omega) (by omega) (by assumption) (by assumption)]; first | done | rfl | (rw [runD_stack]; rfl)) | (rw [rv_cok (k := k) (by omega) (by omega) (by assumption) (by assumption)]; first | done | rfl | (rw [runD_stack]; rfl))) rfl (trivial)
      · refine ExL.nil ?_
        refine Ex.cond_f rfl ?_
        refine Ex.skip ?_
        refine Ex.regSeq (ExL.pures 0 rfl ?_)
        refine ExL.free (fr_loadN rfl rfl rfl rfl rfl (SegO.whole (i := 0) rfl)) rfl rfl rfl ?_
        refine ExL.pures 2 rfl ?_
        refine ExL.op rfl (op_storeC (i := 4) rfl rfl rfl rfl rfl rfl rfl rfl rfl rfl ?_)
        refine ExL.pures 3 rfl ?_
        refine ExL.nil ?_
        refine Ex.ret ?_
        refine RetQ.mk ((x2.1, x2.2), (A, c), (A2, c2)) rfl (.cell rfl (.many rfl rfl rfl (SegO.whole (i := 4) rfl)) (.tmp rfl (.tmp rfl (.tmp rfl .nil)))) (t4 (by first | (exfalso; omega) | (rw [rv_cd (k := k) (by omega) (by assumption)]; first | done | rfl | (rw [runD_stack]; rfl)) | (rw [rv_cover (k := k) (by omega) (by omega) (by assumption) (by assumption)]; first | done | rfl | (rw [runD_stack]; rfl)) | (rw [rv_cok (k := k) (by omega) (by omega) (by assumption) (by assumption)]; first | done | rfl | (rw [runD_stack]; rfl))) (by first | (exfalso; omega) | (rw [rv_cd (k := k) (by omega) (by assumption)]; first | done | rfl) | (rw [rv_cover (k := k) (by omega) (by omega) (by assumption) (by assumption)]; first | done | rfl) | (rw [rv_cok (k := k) (by omega) (by omega) (by assumption) (by assumption)]; first | done | rfl)) (by first | (exfalso; omega) | (rw [rv_cd (k := k) (by omega) (by assumption)]; first | done | rfl) | (rw [rv_cover (k := k) (by omega) (by omega) (by assumption) (by assumption)]; first | done | rfl) | (rw [rv_cok (k := k) (by omega) (by omega) (by assumption) (by assumption)]; first | done | rfl)) (by first | (exfalso; omega) | (rw [rv_cd (k := k) (by omega) (by assumption)]; first | done | rfl) | (rw [rv_cover (k := k) (by omega) (by omega) (by assumption) (by assumption)]; first | done | rfl) | (rw [rv_cok (k := k) (by omega) (by omega) (by assumption) (by assumption)]; first | done | rfl))) [1, 2, 3] (by first | (exfalso; omega) | (rw [rv_cd (k := k) (by omega) (by assumption)]; first | done | rfl | (rw [runD_stack]; rfl)) | (rw [rv_cover (k := k) (by omega) (by omega) (by assumption) (by assumption)]; first | done | rfl | (rw [runD_stack]; rfl)) | (rw [rv_cok (k := k) (by omega) (by omega) (by assumption) (by assumption)]; first | done | rfl | (rw [runD_stack]; rfl))) rfl (trivial)
end Go.Proofs.YtiibhahhjkaodaaGreatDoor

/- What these functions of the program hand back, each proved by walking its operations. -/
set_option linter.unusedVariables false
set_option linter.unusedSimpArgs false
set_option maxRecDepth 4000
namespace Go.Proofs.YtiibhahhjkaodaaGreatDoor
open Go Go.Sx Go.RowKit Go.W Go.Proofs
attribute [local irreducible] Ex ExL ExD Op1 Free RetQ MutQ Reads CellO SegO LoadsAs
theorem e_39 : Enters Tryz.prog 39 := Enters.of Tryz.func39 rfl
theorem c_iDoAct (d : VDev) (hk : OkDev d) (Ad : Option Addr) (cd : Nat) (hAd : Ad = none → cd = 0) (hdl : d.stack.length ≤ 1048576) (a : VAct) (hoa : OkAct a) : Ret Tryz.prog 39 [.agg (encV Ad cd d).toArray, .agg (encA a).toArray] (fun w => Rd w Ad (d.stack.flatMap (eI .u8))) (fun x : Option Addr × Nat => .tuple #[.agg (encV x.1 x.2 (doActV d a).1).toArray, .int .i64 (doActV d a).2.1, .int .i64 (doActV d a).2.2]) (fun x => [.row (.slice x.1 (doActV d a).1.stack.length x.2) 5 1 (doActV d a).1.stack.length ((doActV d a).1.stack.flatMap (eI .u8))]) (fun x => True) := by
  refine Ret.of e_39 Tryz.func39 rfl Tryz.ntmps39 rfl rfl (fun w hpre => ?_)
  have hd := hpre.base
  have hk2 := hk
  obtain ⟨hl, hu, ha, hpp, htt⟩ := hk2
  have hm0 : maxLen = 9223372036854775807 := rfl
  refine Ex.regSeq (ExL.pures 0 rfl ?_)
  refine ExL.op rfl (op_box rfl rfl rfl rfl rfl (fun b1 => ?_))
  refine ExL.op rfl (op_box rfl rfl rfl rfl rfl (fun b2 => ?_))
  refine ExL.op rfl (op_alloc rfl rfl rfl rfl rfl (fun b3 => ?_))
  refine ExL.pures 2 rfl ?_
  refine ExL.nil ?_
  refine Ex.seq ?_
  refine Ex.regSeq (ExL.pures 0 rfl ?_)
  refine ExL.free (fr_loadN rfl rfl rfl rfl rfl (SegO.whole (i := 2) rfl)) rfl rfl rfl ?_
  refine ExL.op rfl (op_ret rfl rfl rfl (c_iValidDevice d (by assumption) _ _) (Reads.get (Reads.old hd)) rfl rfl (fun x4 hx4 => ?_))
  refine ExL.pures 2 rfl ?_
  refine ExL.bool (d := 13) rfl (fun hb5 => ?_) (fun hb5 => ?_)
  · replace hb5 := nb_t hb5
    refine ExL.pures 4 rfl ?_
    refine ExL.nil ?_
    refine Ex.cond_t rfl ?_
    refine Ex.regSeq (ExL.pures 0 rfl ?_)
    refine ExL.free (fr_build rfl rfl rfl rfl) rfl rfl rfl ?_
    refine ExL.op rfl (op_storeC (i := 0) rfl rfl rfl rfl rfl rfl rfl rfl rfl rfl ?_)
    refine ExL.pures 2 rfl ?_
    refine ExL.nil ?_
    refine Ex.nilRow 5 1 ?_
    refine Ex.ret ?_
    refine RetQ.mk (none, 0) rfl (.cell rfl (.many rfl rfl rfl (SegO.whole (i := 1) rfl)) (.tmp rfl (.tmp rfl .nil))) (t3 (by first | (rw [da_no ⟨by assumption, by assumption⟩ (by assumption)]; first | done | rfl) | (rw [da_ok ⟨by assumption, by assumption⟩ (by first | assumption | exact not_not_intro (by assumption))]; first | done | rfl) | (rw [da_ok ⟨by assumption, by assumption⟩ (by first | assumption | exact not_not_intro (by assumption)), (by first | assumption | omega : (doV d a).2.2 = 0)]; first | done | rfl) | (rw [da_bad (by simp_all)]; first | done | rfl)) (by first | (rw [da_no ⟨by assumption, by assumption⟩ (by assumption)]; first | done | rfl) | (rw [da_ok ⟨by assumption, by assumption⟩ (by first | assumption | exact not_not_intro (by assumption))]; first | done | rfl) | (rw [da_ok ⟨by assumption, by assumption⟩ (by first | assumption | exact not_not_intro (by assumption)), (by first | assumption | omega : (doV d a).2.2 = 0)]; first | done | rfl) | (rw [da_bad (by simp_all)]; first | done | rfl)) (by first | (rw [da_no ⟨by assumption, by assumption⟩ (by assumption)]; first | done | rfl) | (rw [da_ok ⟨by assumption, by assumption⟩ (by first | assumption | exact not_not_intro (by assumption))]; first | done | rfl) | (rw [da_ok ⟨by assumption, by assumption⟩ (by first | assumption | exact not_not_intro (by assumption)), (by first | assumption | omega : (doV d a).2.2 = 0)]; first | done | rfl) | (rw [da_bad (by simp_all)]; first | done | rfl))) [0] (by first | (rw [da_no ⟨by assumption, by assumption⟩ (by assumption)]; first | done | rfl) | (rw [da_ok ⟨by assumption, by assumption⟩ (by first | assumption | exact not_not_intro (by assumption))]; first | done | rfl) | (rw [da_ok ⟨by assumption, by assumption⟩ (by first | assumption | exact not_not_intro (by assumption)), (by first | assumption | omega : (doV d a).2.2 = 0)]; first | done | rfl) | (rw [da_bad (by simp_all)]; first | done | rfl)) rfl (trivial)
  · replace hb5 := nb_f hb5
    refine ExL.free (fr_loadN rfl rfl rfl rfl rfl (SegO.whole (i := 1) rfl)) rfl rfl rfl ?_
    refine ExL.op rfl (op_ret rfl rfl rfl (c_ValidAct _) (fun _ _ => trivial) rfl rfl (fun x6 hx6 => ?_))
    refine ExL.pures 2 rfl ?_
    refine ExL.nil ?_
    refine Ex.cond rfl (fun hb7 => ?_) (fun hb7 => ?_)
    · replace hb7 := nb_t hb7
      refine Ex.regSeq (ExL.pures 0 rfl ?_)
      refine ExL.free (fr_build rfl rfl rfl rfl) rfl rfl rfl ?_
      refine ExL.op rfl (op_storeC (i := 0) rfl rfl rfl rfl rfl rfl rfl rfl rfl rfl ?_)
      refine ExL.pures 2 rfl ?_
      refine ExL.nil ?_
      refine Ex.nilRow 5 1 ?_
      refine Ex.ret ?_
      refine RetQ.mk (none, 0) rfl (.cell rfl (.many rfl rfl rfl (SegO.whole (i := 1) rfl)) (.tmp rfl (.tmp rfl .nil))) (t3 (by first | (rw [da_no ⟨by assumption, by assumption⟩ (by assumption)]; first | done | rfl) | (rw [da_ok ⟨by assumption, by assumption⟩ (by first | assumption | exact not_not_intro (by assumption))]; first | done | rfl) | (rw [da_ok ⟨by assumption, by assumption⟩ (by first | assumption | exact not_not_intro (by assumption)), (by first | assumption | omega : (doV d a).2.2 = 0)]; first | done | rfl) | (rw [da_bad (by simp_all)]; first | done | rfl)) (by first | (rw [da_no ⟨by assumption, by assumption⟩ (by assumption)]; first | done | rfl) | (rw [da_ok ⟨by assumption, by assumption⟩ (by first | assumption | exact not_not_intro (by assumption))]; first | done | rfl) | (rw [da_ok ⟨by assumption, by assumption⟩ (by first | assumption | exact not_not_intro (by assumption)), (by first | assumption | omega : (doV d a).2.2 = 0)]; first | done | rfl) | (rw [da_bad (by simp_all)]; first | done | rfl)) (by first | (rw [da_no ⟨by assumption, by assumption⟩ (by assumption)]; first | done | rfl) | (rw [da_ok ⟨by assumption, by assumption⟩ (by first | assumption | exact not_not_intro (by assumption))]; first | done | rfl) | (rw [da_ok ⟨by assumption, by assumption⟩ (by first | assumption | exact not_not_intro (by assumption)), (by first | assumption | omega : (doV d a).2.2 = 0)]; first | done | rfl) | (rw [da_bad (by simp_all)]; first | done | rfl))) [0] (by first | (rw [da_no ⟨by assumption, by assumption⟩ (by assumption)]; first | done | rfl) | (rw [da_ok ⟨by assumption, by assumption⟩ (by first | assumption | exact not_not_intro (by assumption))]; first | done | rfl) | (rw [da_ok ⟨by assumption, by assumption⟩ (by first | assumption | exact not_not_intro (by assumption)), (by first | assumption | omega : (doV d a).2.2 = 0)]; first | done | rfl) | (rw [da_bad (by simp_all)]; first | done | rfl)) rfl (trivial)
    · replace hb7 := nb_f hb7
      refine Ex.skip ?_
      refine Ex.regSeq (ExL.pures 0 rfl ?_)
      refine ExL.free (fr_loadN rfl rfl rfl rfl rfl (SegO.whole (i := 2) rfl)) rfl rfl rfl ?_
      refine ExL.op rfl (op_ret rfl rfl rfl (c_cloneDevice d _ _ (by omega)) (Reads.get (Reads.old hd)) rfl rfl (fun x8 hx8 => ?_))
      refine ExL.op rfl (op_alloc rfl rfl rfl rfl rfl (fun b9 => ?_))
      refine ExL.op rfl (op_storeC (i := 0) rfl rfl rfl rfl rfl rfl rfl rfl rfl rfl ?_)
      refine ExL.nil ?_
      refine Ex.regSeq (ExL.pures 0 rfl ?_)
      refine ExL.free (fr_loadN rfl rfl rfl rfl rfl (SegO.whole (i := 3) rfl)) rfl rfl rfl ?_
      refine ExL.op rfl (op_mut rfl rfl rfl (c_do d (by assumption) (by assumption) _ _ _ a (by first | assumption | simp_all)) (perm_lt (i := 0) (j := 1) rfl rfl rfl) (trivial) rfl rfl (fun x10 hx10 => ?_))
      refine ExL.pures 5 rfl ?_
      refine ExL.nil ?_
      refine Ex.seq ?_
      refine Ex.regSeq (ExL.pures 1 rfl ?_)
      refine ExL.neq rfl rfl rfl rfl rfl rfl (fun h11 => ?_) (fun h11 => ?_)
      · refine ExL.nil ?_
        refine Ex.cond_t rfl ?_
        refine Ex.regSeq (ExL.pures 0 rfl ?_)
        refine ExL.free (fr_build rfl rfl rfl rfl) rfl rfl rfl ?_
        refine ExL.pures 1 rfl ?_
        refine ExL.op rfl (op_storeC (i := 2) rfl rfl rfl rfl rfl rfl rfl rfl rfl rfl ?_)
        refine ExL.pures 2 rfl ?_
        refine ExL.nil ?_
        refine Ex.nilRow 5 1 ?_
        refine Ex.ret ?_
        refine RetQ.mk (none, 0) rfl (.cell rfl (.many rfl rfl rfl (SegO.whole (i := 3) rfl)) (.tmp rfl (.tmp rfl .nil))) (t3 (by first | (rw [da_no ⟨by assumption, by assumption⟩ (by assumption)]; first | done | rfl) | (rw [da_ok ⟨by assumption, by assumption⟩ (by first | assumption | exact not_not_intro (by assumption))]; first | done | rfl) | (rw [da_ok ⟨by assumption, by assumption⟩ (by first | assumption | exact not_not_intro (by assumption)), (by first | assumption | omega : (doV d a).2.2 = 0)]; first | done | rfl) | (rw [da_bad (by simp_all)]; first | done | rfl)) (by first | (rw [da_no ⟨by assumption, by assumption⟩ (by assumption)]; first | done | rfl) | (rw [da_ok ⟨by assumption, by assumption⟩ (by first | assumption | exact not_not_intro (by assumption))]; first | done | rfl) | (rw [da_ok ⟨by assumption, by assumption⟩ (by first | assumption | exact not_not_intro (by assumption)), (by first | assumption | omega : (doV d a).2.2 = 0)]; first | done | rfl) | (rw [da_bad (by simp_all)]; first | done | rfl)) (by first | (rw [da_no ⟨by assumption, by assumption⟩ (by assumption)]; first | done | rfl) | (rw [da_ok ⟨by assumption, by assumption⟩ (by first | assumption | exact not_not_intro (by assumption))]; first | done | rfl) | (rw [da_ok ⟨by assumption, by assumption⟩ (by first | assumption | exact not_not_intro (by assumption)), (by first | assumption | omega : (doV d a).2.2 = 0)]; first | done | rfl) | (rw [da_bad (by simp_all)]; first | done | rfl))) [0] (by first | (rw [da_no ⟨by assumption, by assumption⟩ (by assumption)]; first | done | rfl) | (rw [da_ok ⟨by assumption, by assumption⟩ (by first | assumption | exact not_not_intro (by assumption))]; first | done | rfl) | (rw [da_ok ⟨by assumption, by assumption⟩ (by first | assumption | exact not_not_intro (by assumption)), (by first | assumption | omega : (doV d a).2.2 = 0)]; first | done | rfl) | (rw [da_bad (by simp_all)]; first | done | rfl)) rfl (trivial)
      · refine ExL.nil ?_
        refine Ex.cond_f rfl ?_
        refine Ex.skip ?_
        refine Ex.regSeq (ExL.pures 0 rfl ?_)
        refine ExL.free (fr_loadN rfl rfl rfl rfl rfl (SegO.whole (i := 0) rfl)) rfl rfl rfl ?_
        refine ExL.pures 1 rfl ?_
        refine ExL.op rfl (op_storeC (i := 2) rfl rfl rfl rfl rfl rfl rfl rfl rfl rfl ?_)
        refine ExL.pures 2 rfl ?_
        refine ExL.nil ?_
        refine Ex.ret ?_
        refine RetQ.mk (x8.1, x8.2) rfl (.cell rfl (.many rfl rfl rfl (SegO.whole (i := 2) rfl)) (.tmp rfl (.tmp rfl .nil))) (t3 (by first | (rw [da_no ⟨by assumption, by assumption⟩ (by assumption)]; first | done | rfl) | (rw [da_ok ⟨by assumption, by assumption⟩ (by first | assumption | exact not_not_intro (by assumption))]; first | done | rfl) | (rw [da_ok ⟨by assumption, by assumption⟩ (by first | assumption | exact not_not_intro (by assumption)), do_stack]; first | done | rfl) | (rw [da_bad (by simp_all)]; first | done | rfl)) (by first | (rw [da_no ⟨by assumption, by assumption⟩ (by assumption)]; first | done | rfl) | (rw [da_ok ⟨by assumption, by assumption⟩ (by first | assumption | exact not_not_intro (by assumption))]; first | done | rfl) | (rw [da_ok ⟨by assumption, by assumption⟩ (by first | assumption | exact not_not_intro (by assumption)), (by first | assumption | omega : (doV d a).2.2 = 0)]; first | done | rfl) | (rw [da_bad (by simp_all)]; first | done | rfl)) (by first | (rw [da_no ⟨by assumption, by assumption⟩ (by assumption)]; first | done | rfl) | (rw [da_ok ⟨by assumption, by assumption⟩ (by first | assumption | exact not_not_intro (by assumption))]; first | done | rfl) | (rw [da_ok ⟨by assumption, by assumption⟩ (by first | assumption | exact not_not_intro (by assumption)), (by first | assumption | omega : (doV d a).2.2 = 0)]; first | done | rfl) | (rw [da_bad (by simp_all)]; first | done | rfl))) [1] (by first | (rw [da_no ⟨by assumption, by assumption⟩ (by assumption)]; first | done | rfl) | (rw [da_ok ⟨by assumption, by assumption⟩ (by first | assumption | exact not_not_intro (by assumption))]; first | done | rfl) | (rw [da_ok ⟨by assumption, by assumption⟩ (by first | assumption | exact not_not_intro (by assumption)), do_stack]; first | done | rfl) | (rw [da_bad (by simp_all)]; first | done | rfl)) rfl (trivial)
end Go.Proofs.YtiibhahhjkaodaaGreatDoor

/- What these functions of the program hand back, each proved by walking its operations. -/
set_option linter.unusedVariables false
set_option linter.unusedSimpArgs false
set_option maxRecDepth 4000
namespace Go.Proofs.YtiibhahhjkaodaaGreatDoor
open Go Go.Sx Go.RowKit Go.W Go.Proofs
attribute [local irreducible] Ex ExL ExD Op1 Free RetQ MutQ Reads CellO SegO LoadsAs
theorem e_16 : Enters Tryz.prog 16 := Enters.of Tryz.func16 rfl
theorem c_iPrint (d : VDev) (hk : OkDev d) (Ad : Option Addr) (cd : Nat) (hAd : Ad = none → cd = 0) (hdl : d.stack.length ≤ 1048576) : Ret Tryz.prog 16 [.agg (encV Ad cd d).toArray] (fun w => Rd w Ad (d.stack.flatMap (eI .u8))) (fun x : Option Addr × Nat => .tuple #[.agg (encV x.1 x.2 (printV d).1).toArray, .agg (encT (printV d).2.1).toArray, .int .i64 (printV d).2.2]) (fun x => [.row (.slice x.1 (printV d).1.stack.length x.2) 5 1 (printV d).1.stack.length ((printV d).1.stack.flatMap (eI .u8))]) (fun x => True) := by
  refine Ret.of e_16 Tryz.func16 rfl Tryz.ntmps16 rfl rfl (fun w hpre => ?_)
  have hd := hpre.base
  have hoa := a5_ok
  have hds := da_len d a5
  have hm0 : maxLen = 9223372036854775807 := rfl
  refine Ex.regSeq (ExL.pures 0 rfl ?_)
  refine ExL.op rfl (op_box rfl rfl rfl rfl rfl (fun b1 => ?_))
  refine ExL.op rfl (op_alloc rfl rfl rfl rfl rfl (fun b2 => ?_))
  refine ExL.op rfl (op_alloc rfl rfl rfl rfl rfl (fun b3 => ?_))
  refine ExL.pures 1 rfl ?_
  refine ExL.nil ?_
  refine Ex.regSeq (ExL.pures 0 rfl ?_)
  refine ExL.free (fr_loadN rfl rfl rfl rfl rfl (SegO.whole (i := 2) rfl)) rfl rfl rfl ?_
  refine ExL.free (fr_build (cells := encA a5) rfl rfl rfl (by kernel_rfl)) rfl rfl rfl ?_
  refine ExL.op rfl (op_ret rfl rfl rfl (c_iDoAct d (by assumption) _ _ (by first | assumption | exact (fun e => nomatch e)) (by omega) a5 (by assumption)) (Reads.get (Reads.old hd)) rfl rfl (fun x4 hx4 => ?_))
  refine ExL.pures 4 rfl ?_
  refine ExL.op rfl (op_alloc rfl rfl rfl rfl rfl (fun b5 => ?_))
  refine ExL.op rfl (op_storeC (i := 0) rfl rfl rfl rfl rfl rfl rfl rfl rfl rfl ?_)
  refine ExL.pures 2 rfl ?_
  refine ExL.nil ?_
  refine Ex.seq ?_
  refine Ex.regSeq (ExL.pures 1 rfl ?_)
  refine ExL.neq rfl rfl rfl rfl rfl rfl (fun h6 => ?_) (fun h6 => ?_)
  · refine ExL.nil ?_
    refine Ex.cond_t rfl ?_
    refine Ex.regSeq (ExL.pures 0 rfl ?_)
    refine ExL.free (fr_build rfl rfl rfl rfl) rfl rfl rfl ?_
    refine ExL.free (fr_build rfl rfl rfl rfl) rfl rfl rfl ?_
    refine ExL.pures 1 rfl ?_
    refine ExL.op rfl (op_storeC (i := 3) rfl rfl rfl rfl rfl rfl rfl rfl rfl rfl ?_)
    refine ExL.op rfl (op_storeC (i := 2) rfl rfl rfl rfl rfl rfl rfl rfl rfl rfl ?_)
    refine ExL.pures 1 rfl ?_
    refine ExL.nil ?_
    refine Ex.nilRow 5 1 ?_
    refine Ex.ret ?_
    refine RetQ.mk (none, 0) rfl (.cell rfl (.many rfl rfl rfl (SegO.whole (i := 4) rfl)) (.cell rfl (.many rfl rfl rfl (SegO.whole (i := 3) rfl)) (.tmp rfl .nil))) (t3 (by first | (rw [pr_no (by assumption)]; first | done | rfl) | (rw [pr_ok (by first | assumption | exact not_not_intro (by assumption))]; first | done | rfl)) (by first | (rw [pr_no (by assumption)]; first | done | rfl) | (rw [pr_ok (by first | assumption | exact not_not_intro (by assumption))]; first | done | rfl)) (by first | (rw [pr_no (by assumption)]; first | done | rfl) | (rw [pr_ok (by first | assumption | exact not_not_intro (by assumption))]; first | done | rfl))) [0] (by first | (rw [pr_no (by assumption)]; first | done | rfl) | (rw [pr_ok (by first | assumption | exact not_not_intro (by assumption))]; first | done | rfl)) rfl (trivial)
  · refine ExL.nil ?_
    refine Ex.cond_f rfl ?_
    refine Ex.skip ?_
    refine Ex.drawSeqI [0, 1, 4] rfl rfl ?_
    refine ExD.take (i := 0) rfl (by kernel_rfl) (fr_loadN rfl rfl rfl rfl rfl (SegO.whole (i := 0) rfl)) ((List.Sublist.cons_cons _ (List.Sublist.cons_cons _ (List.Sublist.cons _ (List.Sublist.cons _ (List.Sublist.refl _)))))) rfl rfl rfl ?_
    refine ExD.op (i := 1) rfl (by kernel_rfl) rfl (op_ret rfl rfl rfl (c_ticket (doActV d a5).1 (by first | assumption | exact (da_dev hk (by first | assumption | exact not_not_intro (by assumption))).1) (by first | assumption | exact (da_dev hk (by first | assumption | exact not_not_intro (by assumption))).2) _ _ _) (fun w hw => Reads.get (Reads.blk (i := 0) rfl) w hw) rfl rfl (fun x7 hx7 => ⟨(List.Sublist.cons_cons _ (List.Sublist.cons_cons _ (List.Sublist.cons _ (List.Sublist.cons _ (List.Sublist.refl _))))), ?_⟩))
    refine ExD.op (i := 2) rfl (by kernel_rfl) rfl (op_storeC (i := 3) rfl rfl rfl rfl rfl rfl rfl rfl rfl rfl ⟨(List.Sublist.cons_cons _ (List.Sublist.cons_cons _ (List.Sublist.cons _ (List.Sublist.cons _ (List.Sublist.refl _))))), ?_⟩)
    refine ExD.op (i := 3) rfl (by kernel_rfl) rfl (op_storeC (i := 2) rfl rfl rfl rfl rfl rfl rfl rfl rfl rfl ⟨(List.Sublist.cons_cons _ (List.Sublist.cons_cons _ (List.Sublist.cons _ (List.Sublist.cons _ (List.Sublist.refl _))))), ?_⟩)
    refine ExD.take (i := 4) rfl (by kernel_rfl) (pureVal_ok rfl) ((List.Sublist.cons_cons _ (List.Sublist.cons_cons _ (List.Sublist.cons _ (List.Sublist.cons _ (List.Sublist.refl _)))))) rfl rfl rfl ?_
    refine ExD.done (by kernel_rfl) ?_
    refine Ex.ret ?_
    refine RetQ.mk (x4.1, x4.2) rfl (.cell rfl (.many rfl rfl rfl (SegO.whole (i := 3) rfl)) (.cell rfl (.many rfl rfl rfl (SegO.whole (i := 2) rfl)) (.tmp rfl .nil))) (t3 (by first | (rw [pr_no (by assumption)]; first | done | rfl) | (rw [pr_ok (by first | assumption | exact not_not_intro (by assumption))]; first | done | rfl)) (by first | (rw [pr_no (by assumption)]; first | done | rfl) | (rw [pr_ok (by first | assumption | exact not_not_intro (by assumption))]; first | done | rfl)) (by first | (rw [pr_no (by assumption)]; first | done | rfl) | (rw [pr_ok (by first | assumption | exact not_not_intro (by assumption))]; first | done | rfl))) [1] (by first | (rw [pr_no (by assumption)]; first | done | rfl) | (rw [pr_ok (by first | assumption | exact not_not_intro (by assumption))]; first | done | rfl)) rfl (trivial)
theorem e_17 : Enters Tryz.prog 17 := Enters.of Tryz.func17 rfl
theorem c_sPrint (d : VDev) (hk : OkDev d) (Ad : Option Addr) (cd : Nat) (hAd : Ad = none → cd = 0) (hdl : d.stack.length ≤ 1048576) : Ret Tryz.prog 17 [.agg (encV Ad cd d).toArray] (fun w => Rd w Ad (d.stack.flatMap (eI .u8))) (fun x : Option Addr × Nat => .tuple #[.agg (encV x.1 x.2 (printV d).1).toArray, .agg (encT (printV d).2.1).toArray, .int .i64 (printV d).2.2]) (fun x => [.row (.slice x.1 (printV d).1.stack.length x.2) 5 1 (printV d).1.stack.length ((printV d).1.stack.flatMap (eI .u8))]) (fun x => True) := by
  refine Ret.of e_17 Tryz.func17 rfl Tryz.ntmps17 rfl rfl (fun w hpre => ?_)
  have hd := hpre.base
  have hoa := a5_ok
  have hpl := prs_len d
  have hm0 : maxLen = 9223372036854775807 := rfl
  refine Ex.regSeq (ExL.pures 0 rfl ?_)
  refine ExL.op rfl (op_box rfl rfl rfl rfl rfl (fun b1 => ?_))
  refine ExL.op rfl (op_alloc rfl rfl rfl rfl rfl (fun b2 => ?_))
  refine ExL.op rfl (op_alloc rfl rfl rfl rfl rfl (fun b3 => ?_))
  refine ExL.pures 1 rfl ?_
  refine ExL.nil ?_
  refine Ex.regSeq (ExL.pures 0 rfl ?_)
  refine ExL.free (fr_build (cells := encA a5) rfl rfl rfl (by kernel_rfl)) rfl rfl rfl ?_
  refine ExL.op rfl (op_buildSlice (sz := 2) rfl rfl rfl rfl rfl rfl rfl rfl (by decide) rfl rfl rfl (fun r4 => ?_))
  refine ExL.op rfl (op_ret rfl rfl rfl (c_l07Run d (by assumption) _ _ _ (by first | assumption | exact (fun e => nomatch e)) (by omega) [a5] _ _ (by first | omega | (simp; omega))) (fun w hw => ⟨Reads.get (Reads.blk (i := 3) rfl) w hw, Reads.get (Reads.old hd) w hw, Reads.get (Reads.row (i := 0) rfl) w hw⟩) rfl rfl (fun x5 hx5 => ?_))
  refine ExL.pures 5 rfl ?_
  refine ExL.op rfl (op_alloc rfl rfl rfl rfl rfl (fun b6 => ?_))
  refine ExL.op rfl (op_storeC (i := 0) rfl rfl rfl rfl rfl rfl rfl rfl rfl rfl ?_)
  refine ExL.pures 3 rfl ?_
  refine ExL.nil ?_
  refine Ex.seq ?_
  refine Ex.regSeq (ExL.pures 1 rfl ?_)
  refine ExL.neq rfl rfl rfl rfl rfl rfl (fun h7 => ?_) (fun h7 => ?_)
  · refine ExL.nil ?_
    refine Ex.cond_t rfl ?_
    refine Ex.regSeq (ExL.pures 0 rfl ?_)
    refine ExL.free (fr_build rfl rfl rfl rfl) rfl rfl rfl ?_
    refine ExL.free (fr_build rfl rfl rfl rfl) rfl rfl rfl ?_
    refine ExL.pures 1 rfl ?_
    refine ExL.op rfl (op_storeC (i := 6) rfl rfl rfl rfl rfl rfl rfl rfl rfl rfl ?_)
    refine ExL.op rfl (op_storeC (i := 5) rfl rfl rfl rfl rfl rfl rfl rfl rfl rfl ?_)
    refine ExL.pures 1 rfl ?_
    refine ExL.nil ?_
    refine Ex.nilRow 5 1 ?_
    refine Ex.ret ?_
    refine RetQ.mk (none, 0) rfl (.cell rfl (.many rfl rfl rfl (SegO.whole (i := 7) rfl)) (.cell rfl (.many rfl rfl rfl (SegO.whole (i := 6) rfl)) (.tmp rfl .nil))) (t3 (by first | (rw [prs_no (by assumption)]; first | done | rfl) | (rw [prs_ok (by first | assumption | exact not_not_intro (by assumption))]; first | done | rfl)) (by first | (rw [prs_no (by assumption)]; first | done | rfl) | (rw [prs_ok (by first | assumption | exact not_not_intro (by assumption))]; first | done | rfl)) (by first | (rw [prs_no (by assumption)]; first | done | rfl) | (rw [prs_ok (by first | assumption | exact not_not_intro (by assumption))]; first | done | rfl))) [0] (by first | (rw [prs_no (by assumption)]; first | done | rfl) | (rw [prs_ok (by first | assumption | exact not_not_intro (by assumption))]; first | done | rfl)) rfl (trivial)
  · refine ExL.nil ?_
    refine Ex.cond_f rfl ?_
    refine Ex.skip ?_
    refine Ex.drawSeqI [0, 1, 2, 3, 4, 7] rfl rfl ?_
    refine ExD.take (i := 0) rfl (by kernel_rfl) (fr_loadN rfl rfl rfl rfl rfl (SegO.whole (i := 0) rfl)) ((List.Sublist.cons_cons _ (List.Sublist.cons_cons _ (List.Sublist.cons_cons _ (List.Sublist.cons_cons _ (List.Sublist.cons_cons _ (List.Sublist.cons _ (List.Sublist.cons _ (List.Sublist.refl _))))))))) rfl rfl rfl ?_
    refine ExD.take (i := 1) rfl (by kernel_rfl) (pureVal_ok rfl) ((List.Sublist.cons_cons _ (List.Sublist.cons_cons _ (List.Sublist.cons_cons _ (List.Sublist.cons_cons _ (List.Sublist.cons_cons _ (List.Sublist.cons _ (List.Sublist.cons _ (List.Sublist.refl _))))))))) rfl rfl rfl ?_
    refine ExD.take (i := 2) rfl (by kernel_rfl) (fr_indexAddrR (sz := 10) 3 rfl rfl rfl rfl rfl rfl (by omega)) ((List.Sublist.cons_cons _ (List.Sublist.cons_cons _ (List.Sublist.cons_cons _ (List.Sublist.cons_cons _ (List.Sublist.cons_cons _ (List.Sublist.cons _ (List.Sublist.cons _ (List.Sublist.refl _))))))))) rfl rfl rfl ?_
    refine ExD.take (i := 3) rfl (by kernel_rfl) (fr_loadN rfl rfl rfl rfl rfl (by first | exact segN (Reads.row (i := 3) rfl) encT_len rfl zT (by omega) | exact segF (Reads.row (i := 3) rfl) encT_len rfl zT (by omega))) ((List.Sublist.cons_cons _ (List.Sublist.cons_cons _ (List.Sublist.cons_cons _ (List.Sublist.cons_cons _ (List.Sublist.cons_cons _ (List.Sublist.cons _ (List.Sublist.cons _ (List.Sublist.refl _))))))))) rfl rfl rfl ?_
    refine ExD.op (i := 4) rfl (by kernel_rfl) rfl (op_storeC (i := 6) rfl rfl rfl rfl rfl rfl rfl rfl rfl rfl ⟨(List.Sublist.cons_cons _ (List.Sublist.cons_cons _ (List.Sublist.cons_cons _ (List.Sublist.cons_cons _ (List.Sublist.cons_cons _ (List.Sublist.cons _ (List.Sublist.cons _ (List.Sublist.refl _)))))))), ?_⟩)
    refine ExD.op (i := 5) rfl (by kernel_rfl) rfl (op_storeC (i := 5) rfl rfl rfl rfl rfl rfl rfl rfl rfl rfl ⟨(List.Sublist.cons_cons _ (List.Sublist.cons_cons _ (List.Sublist.cons_cons _ (List.Sublist.cons_cons _ (List.Sublist.cons_cons _ (List.Sublist.cons _ (List.Sublist.cons _ (List.Sublist.refl _)))))))), ?_⟩)
    refine ExD.take (i := 6) rfl (by kernel_rfl) (pureVal_ok rfl) ((List.Sublist.cons_cons _ (List.Sublist.cons_cons _ (List.Sublist.cons_cons _ (List.Sublist.cons_cons _ (List.Sublist.cons_cons _ (List.Sublist.cons _ (List.Sublist.cons _ (List.Sublist.refl _))))))))) rfl rfl rfl ?_
    refine ExD.done (by kernel_rfl) ?_
    refine Ex.ret ?_
    refine RetQ.mk (x5.1.1, x5.1.2) rfl (.cell rfl (.many rfl rfl rfl (SegO.whole (i := 6) rfl)) (.cell rfl (.many rfl rfl rfl (SegO.whole (i := 5) rfl)) (.tmp rfl .nil))) (t3 (by first | (rw [prs_no (by assumption)]; first | done | rfl) | (rw [prs_ok (by first | assumption | exact not_not_intro (by assumption))]; first | done | rfl)) (by first | (rw [prs_no (by assumption)]; first | done | rfl) | (rw [prs_ok (by first | assumption | exact not_not_intro (by assumption))]; first | done | rfl)) (by first | (rw [prs_no (by assumption)]; first | done | rfl) | (rw [prs_ok (by first | assumption | exact not_not_intro (by assumption))]; first | done | rfl))) [1] (by first | (rw [prs_no (by assumption)]; first | done | rfl) | (rw [prs_ok (by first | assumption | exact not_not_intro (by assumption))]; first | done | rfl)) rfl (trivial)
end Go.Proofs.YtiibhahhjkaodaaGreatDoor

/- What these functions of the program hand back, each proved by walking its operations. -/
set_option linter.unusedVariables false
set_option linter.unusedSimpArgs false
set_option maxRecDepth 4000
namespace Go.Proofs.YtiibhahhjkaodaaGreatDoor
open Go Go.Sx Go.RowKit Go.W Go.Proofs
attribute [local irreducible] Ex ExL ExD Op1 Free RetQ MutQ Reads CellO SegO LoadsAs
theorem e_50 : Enters Tryz.prog 50 := Enters.of Tryz.func50 rfl
theorem c_plays (ts : List VTic) (hts : ts.length ≤ 60) (bt : Nat) (A : Option Addr) (c : Nat) (t : VTic) : Mut Tryz.prog 50 [.agg (encT t).toArray, .pointer (some ⟨bt, 0, none⟩)] [.blk bt [.slice A ts.length c] 32, .row (.slice A ts.length c) 40 10 ts.length (ts.flatMap encT)] (fun base w0 F => True) (fun x : Option Addr × Nat => .tuple #[]) (fun x => [.blk bt [.slice x.1 (ts ++ [t]).length x.2] 32, .row (.slice x.1 (ts ++ [t]).length x.2) 40 10 (ts ++ [t]).length ((ts ++ [t]).flatMap encT)]) (fun x => True) := by
  refine Mut.of e_50 Tryz.func50 rfl Tryz.ntmps50 rfl rfl (fun base w0 F hfr => ?_)
  have hm0 : maxLen = 9223372036854775807 := rfl
  refine Ex.regSeq (ExL.pures 0 rfl ?_)
  refine ExL.op rfl (op_box rfl rfl rfl rfl rfl (fun b1 => ?_))
  refine ExL.nil ?_
  refine Ex.region (ExL.pures 0 rfl ?_)
  refine ExL.free (fr_load rfl rfl rfl rfl (CellO.blk (i := 1) rfl rfl)) rfl rfl rfl ?_
  refine ExL.free (fr_loadN rfl rfl rfl rfl rfl (SegO.whole (i := 0) rfl)) rfl rfl rfl ?_
  refine ExL.op rfl (op_buildSlice (sz := 10) rfl rfl rfl rfl rfl rfl rfl rfl (by decide) rfl rfl rfl (fun r2 => ?_))
  refine ExL.op rfl (op_append (sz := 10) (bytes := 24) (i := 3) rfl rfl rfl rfl (Reads.row (i := 0) rfl) rfl (fun e => nomatch e) rfl rfl rfl rfl (by constructor <;> first | omega | (unfold maxLen; omega)) rfl rfl (fun A3 cA3 => ?_))
  refine ExL.op rfl (op_storeC (i := 2) rfl rfl rfl rfl rfl rfl rfl rfl rfl rfl ?_)
  refine ExL.nil ?_
  refine MutQ.mk (A3, cA3) rfl .nil (rfl) 4 [2, 3] (by rw [List.length_append, List.flatMap_append]; rfl) rfl (trivial)
end Go.Proofs.YtiibhahhjkaodaaGreatDoor

/- What these functions of the program hand back, each proved by walking its operations. -/
set_option linter.unusedVariables false
set_option linter.unusedSimpArgs false
set_option maxRecDepth 4000
namespace Go.Proofs.YtiibhahhjkaodaaGreatDoor
open Go Go.Sx Go.RowKit Go.W Go.Proofs
attribute [local irreducible] Ex ExL ExD Op1 Free RetQ MutQ Reads CellO SegO LoadsAs
theorem e_49 : Enters Tryz.prog 49 := Enters.of Tryz.func49 rfl
theorem c_notes (d : VDev) (hk : OkDev d) (hdv : validDev d = true) (Ad : Option Addr) (cd : Nat) (b : Nat) (l : List VAct) (hva : ∀ i, i < l.length → validAct (l.getD i zA) = true) (h60 : l.length ≤ 60) (Al : Option Addr) (cl : Nat) (bt : Nat) (At : Option Addr) (ct : Nat) : Mut Tryz.prog 49 [.pointer (some ⟨b, 0, none⟩), .slice Al l.length cl, .func (.func 50) #[] #[.pointer (some ⟨bt, 0, none⟩)]] [.blk b (encV Ad cd d) 28, .row (.slice Ad d.stack.length cd) 5 1 d.stack.length (d.stack.flatMap (eI .u8)), .blk bt [.slice At 0 ct] 32, .row (.slice At 0 ct) 40 10 0 []] (fun base w0 F => RdB base w0 Al (l.flatMap encA)) (fun x : Nat × Nat × (Option Addr × Nat) × (Option Addr × Nat) => .tuple #[.slice x.2.2.2.1 (notesR d l).1.length x.2.2.2.2, .int .i64 (notesR d l).2.1, .int .i64 (notesR d l).2.2]) (fun x => [.blk b (encV Ad cd (runD d l x.1)) 28, .row (.slice Ad (runD d l x.1).stack.length cd) 5 1 (runD d l x.1).stack.length ((runD d l x.1).stack.flatMap (eI .u8)), .blk bt [.slice x.2.2.1.1 (ticsL d l x.2.1).length x.2.2.1.2] 32, .row (.slice x.2.2.1.1 (ticsL d l x.2.1).length x.2.2.1.2) 40 10 (ticsL d l x.2.1).length ((ticsL d l x.2.1).flatMap encT), .row (.slice x.2.2.2.1 (notesR d l).1.length x.2.2.2.2) 108 11 (notesR d l).1.length ((notesR d l).1.flatMap encN)]) (fun x => runC d l l.length = 0 → x.1 = l.length ∧ x.2.1 = l.length) := by
  refine Mut.of e_49 Tryz.func49 rfl Tryz.ntmps49 rfl rfl (fun base w0 F hfr => ?_)
  have hl := hfr
  have hm0 : maxLen = 9223372036854775807 := rfl
  refine Ex.regSeq (ExL.pures 3 rfl ?_)
  refine ExL.nil ?_
  refine Ex.regSeq (ExL.pures 0 rfl ?_)
  refine ExL.op rfl (op_buildSlice (sz := 11) rfl rfl rfl rfl rfl rfl rfl rfl (by decide) rfl rfl rfl (fun r1 => ?_))
  refine ExL.pures 2 rfl ?_
  refine ExL.nil ?_
  refine Ex.seq ?_
  refine Ex.regSeq (ExL.pures 3 rfl ?_)
  refine ExL.nil ?_
  refine Ex.block ?_
  refine Ex.loopB (fun k A c A2 c2 => [(9, .slice A (notesL d l k).length c), (10, .int .i64 (lostD d l k)), (18, .int .i64 k)]) (fun k A c A2 c2 => [.blk b (encV Ad cd (runD d l k)) 28, .row (.slice Ad (runD d l k).stack.length cd) 5 1 (runD d l k).stack.length ((runD d l k).stack.flatMap (eI .u8)), .blk bt [.slice A2 (ticsL d l k).length c2] 32, .row (.slice A2 (ticsL d l k).length c2) 40 10 (ticsL d l k).length ((ticsL d l k).flatMap encT), .row (.slice A (notesL d l k).length c) 108 11 (notesL d l k).length ((notesL d l k).flatMap encN)]) (fun k => k ≤ l.length ∧ runC d l k = 0) (fun k => l.length - k) 0 ((some ⟨r1, 0, none⟩)) (0) (At) (ct) [(0, _), (2, _), (16, _), (17, _)] (F) 5 [1, 2, 3, 4, 0] ⟨rfl, rfl, rfl, trivial⟩ ⟨rfl, rfl, rfl, rfl, trivial⟩ (rfl) rfl ⟨Nat.zero_le _, rfl⟩ (fun k A c A2 c2 hI => ?_)
  have hI : k ≤ l.length ∧ runC d l k = 0 := hI
  obtain ⟨hI, hrc⟩ := hI
  refine Ex.regSeq (ExL.pures 0 rfl ?_)
  refine ExL.lss rfl rfl rfl rfl rfl rfl (fun h2 => ?_) (fun h2 => ?_)
  · refine ExL.nil ?_
    refine Ex.seq ?_
    refine Ex.cond_t rfl ?_
    refine Ex.skip ?_
    refine Ex.seq ?_
    refine Ex.block ?_
    have hkl : k < l.length := (by omega)
    have hak := hva k hkl
    obtain ⟨hrk, hrv⟩ := run_ok hk hdv hva k (by omega)
    have hlo := lost_bd hk hdv hva k (by omega)
    have hdl := do_lost hrk hrv hak
    have hrs := runD_stack d l k
    have htl := ticsL_len d l k
    have hnl := notesL_len d l k
    obtain ⟨ho1, ho2⟩ := do_ok hrk hrv hak
    refine Ex.regSeq (ExL.pures 0 rfl ?_)
    refine ExL.free (fr_indexAddrF (Reads.old hl) encA_len rfl rfl rfl rfl rfl rfl (by omega)) rfl rfl rfl ?_
    refine ExL.free (fr_loadN rfl rfl rfl rfl rfl (by first | exact segN (Reads.old hl) encA_len rfl zA (by omega) | exact segF (Reads.old hl) encA_len rfl zA (by omega))) rfl rfl rfl ?_
    refine ExL.op rfl (op_alloc rfl rfl rfl rfl rfl (fun b3 => ?_))
    refine ExL.op rfl (op_storeC (i := 0) rfl rfl rfl rfl rfl rfl rfl rfl rfl rfl ?_)
    refine ExL.nil ?_
    refine Ex.regSeq (ExL.pures 1 rfl ?_)
    refine ExL.free (fr_loadN rfl rfl rfl rfl rfl (SegO.whole (i := 0) rfl)) rfl rfl rfl ?_
    refine ExL.op rfl (op_mut rfl rfl rfl (c_do (runD d l k) (by assumption) (by assumption) _ _ _ (l.getD k zA) (by first | assumption | simp_all)) (perm_lt (i := 1) (j := 2) rfl rfl rfl) (trivial) rfl rfl (fun x4 hx4 => ?_))
    refine ExL.pures 5 rfl ?_
    refine ExL.nil ?_
    refine Ex.seq ?_
    refine Ex.regSeq (ExL.pures 1 rfl ?_)
    refine ExL.neq rfl rfl rfl rfl rfl rfl (fun h5 => ?_) (fun h5 => ?_)
    · refine ExL.nil ?_
      refine Ex.cond_t rfl ?_
      refine Ex.regSeq (ExL.pures 4 rfl ?_)
      refine ExL.nil ?_
      refine Ex.nilRow 108 11 ?_
      refine Ex.ret ?_
      refine MutQ.mk (k + 1, k, (A2, c2), (none, 0)) rfl (.tmp rfl (.tmp rfl (.tmp rfl .nil))) (t3 (by first | (exfalso; omega) | (rw [nr_code (k := k) hkl hrc (by assumption)]; first | done | rfl) | (rw [nr_over (k := k) (by omega) (by omega) hrc (by assumption)]; first | done | rfl) | (rw [nr_ok (k := k) (by omega) (by omega) hrc (by assumption)]; first | done | rfl)) (by first | (exfalso; omega) | (rw [nr_code (k := k) hkl hrc (by assumption)]; first | done | rfl) | (rw [nr_over (k := k) (by omega) (by omega) hrc (by assumption)]; first | done | rfl) | (rw [nr_ok (k := k) (by omega) (by omega) hrc (by assumption)]; first | done | rfl)) (by first | (exfalso; omega) | (rw [nr_code (k := k) hkl hrc (by assumption)]; first | done | rfl) | (rw [nr_over (k := k) (by omega) (by omega) hrc (by assumption)]; first | done | rfl) | (rw [nr_ok (k := k) (by omega) (by omega) hrc (by assumption)]; first | done | rfl))) 7 [1, 2, 4, 5, 0] (by first | (rw [show runD d l (k + 1) = (doV (runD d l k) (l.getD k zA)).1 from rfl, do_stack]; first | (rw [nr_code (k := k) hkl hrc (by assumption)]; first | done | rfl)) | (rw [nr_code (k := k) hkl hrc (by assumption)]; first | done | rfl) | (rw [nr_over (k := k) (by omega) (by omega) hrc (by assumption)]; first | done | rfl) | (rw [nr_ok (k := k) (by omega) (by omega) hrc (by assumption)]; first | done | rfl)) rfl (by first | (intro h; rw [rc_hit hkl hrc (by assumption)] at h; exact absurd h (by assumption)) | exact fun _ => ⟨show k = l.length by omega, show k = l.length by omega⟩)
    · refine ExL.nil ?_
      refine Ex.cond_f rfl ?_
      refine Ex.skip ?_
      refine Ex.regSeq (ExL.pures 2 rfl ?_)
      refine ExL.free (by first | exact fr_add64 rfl rfl rfl (by omega) | exact fr_add rfl rfl rfl) rfl rfl rfl ?_
      refine ExL.pures 1 rfl ?_
      refine ExL.nil ?_
      refine Ex.drawSeqI [0, 1, 2, 3, 4] rfl rfl ?_
      refine ExD.take (i := 0) rfl (by kernel_rfl) (pureVal_ok rfl) ((List.Sublist.cons_cons _ (List.Sublist.cons_cons _ (List.Sublist.cons_cons _ (List.Sublist.cons_cons _ (List.Sublist.cons_cons _ (List.nil_sublist _))))))) rfl rfl rfl ?_
      refine ExD.take (i := 1) rfl (by kernel_rfl) (fr_loadN rfl rfl rfl rfl rfl (SegO.whole (i := 2) rfl)) ((List.Sublist.cons_cons _ (List.Sublist.cons_cons _ (List.Sublist.cons_cons _ (List.Sublist.cons_cons _ (List.Sublist.cons_cons _ (List.nil_sublist _))))))) rfl rfl rfl ?_
      refine ExD.take (i := 2) rfl (by kernel_rfl) (pureVal_ok rfl) ((List.Sublist.cons_cons _ (List.Sublist.cons_cons _ (List.Sublist.cons_cons _ (List.Sublist.cons_cons _ (List.Sublist.cons_cons _ (List.nil_sublist _))))))) rfl rfl rfl ?_
      refine ExD.take (i := 3) rfl (by kernel_rfl) (pureVal_ok rfl) ((List.Sublist.cons_cons _ (List.Sublist.cons_cons _ (List.Sublist.cons_cons _ (List.Sublist.cons_cons _ (List.Sublist.cons_cons _ (List.nil_sublist _))))))) rfl rfl rfl ?_
      refine ExD.take (i := 4) rfl (by kernel_rfl) (pureVal_ok rfl) ((List.Sublist.cons_cons _ (List.Sublist.cons_cons _ (List.Sublist.cons_cons _ (List.Sublist.cons_cons _ (List.Sublist.cons_cons _ (List.nil_sublist _))))))) rfl rfl rfl ?_
      refine ExD.take (i := 5) rfl (by kernel_rfl) (fr_loadN rfl rfl rfl rfl rfl (SegO.part (i := 0) 8 rfl)) ((List.Sublist.cons_cons _ (List.Sublist.cons_cons _ (List.Sublist.cons_cons _ (List.Sublist.cons_cons _ (List.Sublist.cons_cons _ (List.nil_sublist _))))))) rfl rfl rfl ?_
      refine ExD.take (i := 6) rfl (by kernel_rfl) (pureVal_ok rfl) ((List.Sublist.cons_cons _ (List.Sublist.cons_cons _ (List.Sublist.cons_cons _ (List.Sublist.cons_cons _ (List.Sublist.cons_cons _ (List.nil_sublist _))))))) rfl rfl rfl ?_
      refine ExD.take (i := 7) rfl (by kernel_rfl) (fr_build (cells := encN ⟨l.getD k zA, (doV (runD d l k) (l.getD k zA)).1.shows, (doV (runD d l k) (l.getD k zA)).2.1⟩) rfl rfl rfl (by kernel_rfl)) ((List.Sublist.cons_cons _ (List.Sublist.cons_cons _ (List.Sublist.cons_cons _ (List.Sublist.cons_cons _ (List.Sublist.cons_cons _ (List.nil_sublist _))))))) rfl rfl rfl ?_
      refine ExD.op (i := 8) rfl (by kernel_rfl) rfl (op_buildSlice (sz := 11) rfl rfl rfl rfl rfl rfl rfl rfl (by decide) rfl rfl rfl (fun r6 => ⟨(List.Sublist.cons _ (List.Sublist.cons_cons _ (List.Sublist.cons_cons _ (List.Sublist.cons_cons _ (List.Sublist.cons_cons _ (List.Sublist.cons_cons _ (List.nil_sublist _))))))), ?_⟩))
      refine ExD.op (i := 9) rfl (by kernel_rfl) rfl (op_append (sz := 11) (bytes := 32) (i := 6) rfl rfl rfl rfl (Reads.row (i := 0) rfl) rfl (fun e => nomatch e) rfl rfl rfl rfl (by constructor <;> first | omega | (unfold maxLen; omega)) rfl rfl (fun A7 cA7 => ⟨(List.Sublist.cons _ (List.Sublist.cons_cons _ (List.Sublist.cons_cons _ (List.Sublist.cons_cons _ (List.Sublist.cons_cons _ (List.Sublist.cons_cons _ (List.nil_sublist _))))))), ?_⟩))
      refine ExD.take (i := 10) rfl (by kernel_rfl) (pureVal_ok rfl) ((List.Sublist.cons _ (List.Sublist.cons_cons _ (List.Sublist.cons_cons _ (List.Sublist.cons_cons _ (List.Sublist.cons_cons _ (List.Sublist.cons_cons _ (List.nil_sublist _)))))))) rfl rfl rfl ?_
      refine ExD.done (by kernel_rfl) ?_
      refine Ex.regSeq (ExL.pures 1 rfl ?_)
      refine ExL.free (fr_load rfl rfl rfl rfl (CellO.blk (i := 3) rfl rfl)) rfl rfl rfl ?_
      refine ExL.eql rfl rfl rfl rfl rfl rfl (fun h9 => ?_) (fun h9 => ?_)
      · refine ExL.nil ?_
        refine Ex.cond_t rfl ?_
        refine Ex.region (ExL.pures 2 rfl ?_)
        refine ExL.op rfl (op_ret rfl rfl rfl (c_ticket ((doV (runD d l k) (l.getD k zA)).1) (by first | assumption | exact (da_dev hk (by first | assumption | exact not_not_intro (by assumption))).1) (by first | assumption | exact (da_dev hk (by first | assumption | exact not_not_intro (by assumption))).2) _ _ _) (fun w hw => Reads.get (Reads.blk (i := 1) rfl) w hw) rfl rfl (fun x10 hx10 => ?_))
        refine ExL.op rfl (op_mut rfl rfl rfl (c_plays (ticsL d l k) (by omega) _ _ _ (ticV ((doV (runD d l k) (l.getD k zA)).1))) (perm_lt (i := 4) (j := 5) rfl rfl rfl) (trivial) rfl rfl (fun x11 hx11 => ?_))
        refine ExL.nil ?_
        refine Ex.region (ExL.pures 0 rfl ?_)
        refine ExL.free (by first | exact fr_add64 rfl rfl rfl (by omega) | exact fr_add rfl rfl rfl) rfl rfl rfl ?_
        refine ExL.pures 1 rfl ?_
        refine ExL.nil ?_
        refine HandB.of (k + 1) (A7) (cA7) (x11.1) (x11.2) 7 [3, 4, 0, 1, 6] ⟨(by rw [notesL, List.length_append]; rfl), rfl, rfl, trivial⟩ ⟨rfl, rfl, rfl, rfl, trivial⟩ (by first | (rw [show runD d l (k + 1) = (doV (runD d l k) (l.getD k zA)).1 from rfl, do_stack, notesL, tl_5 (by assumption)]; simp only [List.length_append, List.flatMap_append]; rfl) | (rw [show runD d l (k + 1) = (doV (runD d l k) (l.getD k zA)).1 from rfl, do_stack, notesL, tl_n (by assumption)]; simp only [List.length_append, List.flatMap_append]; rfl)) rfl (⟨by omega, by rw [rc_go hrc]; first | assumption | omega⟩) (by omega)
      · refine ExL.nil ?_
        refine Ex.cond_f rfl ?_
        refine Ex.skip ?_
        refine Ex.region (ExL.pures 0 rfl ?_)
        refine ExL.free (by first | exact fr_add64 rfl rfl rfl (by omega) | exact fr_add rfl rfl rfl) rfl rfl rfl ?_
        refine ExL.pures 1 rfl ?_
        refine ExL.nil ?_
        refine HandB.of (k + 1) (A7) (cA7) (A2) (c2) 7 [1, 2, 4, 5, 6] ⟨(by rw [notesL, List.length_append]; rfl), rfl, rfl, trivial⟩ ⟨rfl, rfl, rfl, rfl, trivial⟩ (by first | (rw [show runD d l (k + 1) = (doV (runD d l k) (l.getD k zA)).1 from rfl, do_stack, notesL, tl_5 (by assumption)]; simp only [List.length_append, List.flatMap_append]; rfl) | (rw [show runD d l (k + 1) = (doV (runD d l k) (l.getD k zA)).1 from rfl, do_stack, notesL, tl_n (by assumption)]; simp only [List.length_append, List.flatMap_append]; rfl)) rfl (⟨by omega, by rw [rc_go hrc]; first | assumption | omega⟩) (by omega)
  · refine ExL.nil ?_
    refine Ex.seq ?_
    refine Ex.cond_f rfl ?_
    refine Ex.exit ?_
    refine Ex.seq ?_
    refine Ex.regSeq (ExL.pures 1 rfl ?_)
    refine ExL.gtr rfl rfl rfl rfl rfl rfl (fun h12 => ?_) (fun h12 => ?_)
    · refine ExL.nil ?_
      refine Ex.cond_t rfl ?_
      refine Ex.regSeq (ExL.pures 3 rfl ?_)
      refine ExL.nil ?_
      refine Ex.nilRow 108 11 ?_
      refine Ex.ret ?_
      refine MutQ.mk (k, k, (A2, c2), (none, 0)) rfl (.tmp rfl (.tmp rfl (.tmp rfl .nil))) (t3 (by first | (exfalso; omega) | (rw [nr_code (k := k) hkl hrc (by assumption)]; first | done | rfl) | (rw [nr_over (k := k) (by omega) (by omega) hrc (by assumption)]; first | done | rfl) | (rw [nr_ok (k := k) (by omega) (by omega) hrc (by assumption)]; first | done | rfl)) (by first | (exfalso; omega) | (rw [nr_code (k := k) hkl hrc (by assumption)]; first | done | rfl) | (rw [nr_over (k := k) (by omega) (by omega) hrc (by assumption)]; first | done | rfl) | (rw [nr_ok (k := k) (by omega) (by omega) hrc (by assumption)]; first | done | rfl)) (by first | (exfalso; omega) | (rw [nr_code (k := k) hkl hrc (by assumption)]; first | done | rfl) | (rw [nr_over (k := k) (by omega) (by omega) hrc (by assumption)]; first | done | rfl) | (rw [nr_ok (k := k) (by omega) (by omega) hrc (by assumption)]; first | done | rfl))) 6 [1, 2, 3, 4, 0] (by first | (rw [show runD d l (k + 1) = (doV (runD d l k) (l.getD k zA)).1 from rfl, do_stack]; first | (rw [nr_code (k := k) hkl hrc (by assumption)]; first | done | rfl)) | (rw [nr_code (k := k) hkl hrc (by assumption)]; first | done | rfl) | (rw [nr_over (k := k) (by omega) (by omega) hrc (by assumption)]; first | done | rfl) | (rw [nr_ok (k := k) (by omega) (by omega) hrc (by assumption)]; first | done | rfl)) rfl (by first | (intro h; rw [rc_hit hkl hrc (by assumption)] at h; exact absurd h (by assumption)) | exact fun _ => ⟨show k = l.length by omega, show k = l.length by omega⟩)
    · refine ExL.nil ?_
      refine Ex.cond_f rfl ?_
      refine Ex.skip ?_
      refine Ex.regSeq (ExL.pures 5 rfl ?_)
      refine ExL.nil ?_
      refine Ex.ret ?_
      refine MutQ.mk (k, k, (A2, c2), (A, c)) rfl (.tmp rfl (.tmp rfl (.tmp rfl .nil))) (t3 (by first | (exfalso; omega) | (rw [nr_code (k := k) hkl hrc (by assumption)]; first | done | rfl) | (rw [nr_over (k := k) (by omega) (by omega) hrc (by assumption)]; first | done | rfl) | (rw [nr_ok (k := k) (by omega) (by omega) hrc (by assumption)]; first | done | rfl)) (by first | (exfalso; omega) | (rw [nr_code (k := k) hkl hrc (by assumption)]; first | done | rfl) | (rw [nr_over (k := k) (by omega) (by omega) hrc (by assumption)]; first | done | rfl) | (rw [nr_ok (k := k) (by omega) (by omega) hrc (by assumption)]; first | done | rfl)) (by first | (exfalso; omega) | (rw [nr_code (k := k) hkl hrc (by assumption)]; first | done | rfl) | (rw [nr_over (k := k) (by omega) (by omega) hrc (by assumption)]; first | done | rfl) | (rw [nr_ok (k := k) (by omega) (by omega) hrc (by assumption)]; first | done | rfl))) 5 [0, 1, 2, 3, 4] (by first | (rw [show runD d l (k + 1) = (doV (runD d l k) (l.getD k zA)).1 from rfl, do_stack]; first | (rw [nr_code (k := k) hkl hrc (by assumption)]; first | done | rfl)) | (rw [nr_code (k := k) hkl hrc (by assumption)]; first | done | rfl) | (rw [nr_over (k := k) (by omega) (by omega) hrc (by assumption)]; first | done | rfl) | (rw [nr_ok (k := k) (by omega) (by omega) hrc (by assumption)]; first | done | rfl)) rfl (by first | (intro h; rw [rc_hit hkl hrc (by assumption)] at h; exact absurd h (by assumption)) | exact fun _ => ⟨show k = l.length by omega, show k = l.length by omega⟩)
end Go.Proofs.YtiibhahhjkaodaaGreatDoor

/- What these functions of the program hand back, each proved by walking its operations. -/
set_option linter.unusedVariables false
set_option linter.unusedSimpArgs false
set_option maxRecDepth 4000
namespace Go.Proofs.YtiibhahhjkaodaaGreatDoor
open Go Go.Sx Go.RowKit Go.W Go.Proofs
attribute [local irreducible] Ex ExL ExD Op1 Free RetQ MutQ Reads CellO SegO LoadsAs
theorem e_26 : Enters Tryz.prog 26 := Enters.of Tryz.func26 rfl
theorem c_played (d : VDev) (hk : OkDev d) (Ad : Option Addr) (cd : Nat) (hdl : d.stack.length ≤ 1048576) (l : List VAct) (Al : Option Addr) (cl : Nat) (hll : l.length ≤ maxLen) : Ret Tryz.prog 26 [.agg (encV Ad cd d).toArray, .slice Al l.length cl] (fun w => Rd w Ad (d.stack.flatMap (eI .u8)) ∧ Rd w Al (l.flatMap encA)) (fun x : (Option Addr × Nat) × (Option Addr × Nat) × (Option Addr × Nat) => .tuple #[.agg (encV x.1.1 x.1.2 (runV d l).1).toArray, .slice x.2.1.1 (runV d l).2.1.length x.2.1.2, .slice x.2.2.1 (runV d l).2.2.1.length x.2.2.2, .int .i64 (runV d l).2.2.2.1, .int .i64 (runV d l).2.2.2.2]) (fun x => [.row (.slice x.1.1 (runV d l).1.stack.length x.1.2) 5 1 (runV d l).1.stack.length ((runV d l).1.stack.flatMap (eI .u8)), .row (.slice x.2.1.1 (runV d l).2.1.length x.2.1.2) 108 11 (runV d l).2.1.length ((runV d l).2.1.flatMap encN), .row (.slice x.2.2.1 (runV d l).2.2.1.length x.2.2.2) 40 10 (runV d l).2.2.1.length ((runV d l).2.2.1.flatMap encT)]) (fun x => True) := by
  refine Ret.of e_26 Tryz.func26 rfl Tryz.ntmps26 rfl rfl (fun w hpre => ?_)
  have hd := hpre.1.base
  have hl := hpre.2.base
  have hm0 : maxLen = 9223372036854775807 := rfl
  refine Ex.regSeq (ExL.pures 0 rfl ?_)
  refine ExL.op rfl (op_box rfl rfl rfl rfl rfl (fun b1 => ?_))
  refine ExL.op rfl (op_alloc rfl rfl rfl rfl rfl (fun b2 => ?_))
  refine ExL.pures 4 rfl ?_
  refine ExL.nil ?_
  refine Ex.seq ?_
  refine Ex.regSeq (ExL.pures 0 rfl ?_)
  refine ExL.free (fr_loadN rfl rfl rfl rfl rfl (SegO.whole (i := 1) rfl)) rfl rfl rfl ?_
  refine ExL.op rfl (op_ret rfl rfl rfl (c_iValidDevice d (by assumption) _ _) (Reads.get (Reads.old hd)) rfl rfl (fun x3 hx3 => ?_))
  refine ExL.pures 1 rfl ?_
  refine ExL.nil ?_
  refine Ex.cond rfl (fun hb4 => ?_) (fun hb4 => ?_)
  · replace hb4 := nb_t hb4
    refine Ex.regSeq (ExL.pures 0 rfl ?_)
    refine ExL.free (fr_build rfl rfl rfl rfl) rfl rfl rfl ?_
    refine ExL.op rfl (op_storeC (i := 0) rfl rfl rfl rfl rfl rfl rfl rfl rfl rfl ?_)
    refine ExL.pures 4 rfl ?_
    refine ExL.nil ?_
    refine Ex.nilRow 5 1 ?_
    refine Ex.nilRow 108 11 ?_
    refine Ex.nilRow 40 10 ?_
    refine Ex.ret ?_
    refine RetQ.mk ((none, 0), (none, 0), (none, 0)) rfl (.cell rfl (.many rfl rfl rfl (SegO.whole (i := 3) rfl)) (.tmp rfl (.tmp rfl (.tmp rfl (.tmp rfl .nil))))) (t5 (by first | (rw [rv_vd (by assumption)]; first | done | rfl) | (rw [rv_af (by assumption) (by assumption)]; first | done | rfl) | (rw [rv_nc (by assumption) (by first | assumption | exact not_not_intro (by assumption)) (by assumption)]; first | done | rfl) | (rw [rv_no (by assumption) (by first | assumption | exact not_not_intro (by assumption)) (by first | assumption | exact not_not_intro (by assumption)) (by assumption)]; first | done | rfl)) (by first | (rw [rv_vd (by assumption)]; first | done | rfl) | (rw [rv_af (by assumption) (by assumption)]; first | done | rfl) | (rw [rv_nc (by assumption) (by first | assumption | exact not_not_intro (by assumption)) (by assumption)]; first | done | rfl) | (rw [rv_no (by assumption) (by first | assumption | exact not_not_intro (by assumption)) (by first | assumption | exact not_not_intro (by assumption)) (by assumption)]; first | done | rfl)) (by first | (rw [rv_vd (by assumption)]; first | done | rfl) | (rw [rv_af (by assumption) (by assumption)]; first | done | rfl) | (rw [rv_nc (by assumption) (by first | assumption | exact not_not_intro (by assumption)) (by assumption)]; first | done | rfl) | (rw [rv_no (by assumption) (by first | assumption | exact not_not_intro (by assumption)) (by first | assumption | exact not_not_intro (by assumption)) (by assumption)]; first | done | rfl)) (by first | (rw [rv_vd (by assumption)]; first | done | rfl) | (rw [rv_af (by assumption) (by assumption)]; first | done | rfl) | (rw [rv_nc (by assumption) (by first | assumption | exact not_not_intro (by assumption)) (by assumption)]; first | done | rfl) | (rw [rv_no (by assumption) (by first | assumption | exact not_not_intro (by assumption)) (by first | assumption | exact not_not_intro (by assumption)) (by assumption)]; first | done | rfl)) (by first | (rw [rv_vd (by assumption)]; first | done | rfl) | (rw [rv_af (by assumption) (by assumption)]; first | done | rfl) | (rw [rv_nc (by assumption) (by first | assumption | exact not_not_intro (by assumption)) (by assumption)]; first | done | rfl) | (rw [rv_no (by assumption) (by first | assumption | exact not_not_intro (by assumption)) (by first | assumption | exact not_not_intro (by assumption)) (by assumption)]; first | done | rfl))) [2, 1, 0] (by first | (rw [rv_vd (by assumption)]; first | done | rfl) | (rw [rv_af (by assumption) (by assumption)]; first | done | rfl) | (rw [rv_nc (by assumption) (by first | assumption | exact not_not_intro (by assumption)) (by assumption)]; first | done | rfl) | (rw [rv_no (by assumption) (by first | assumption | exact not_not_intro (by assumption)) (by first | assumption | exact not_not_intro (by assumption)) (by assumption)]; first | done | rfl)) rfl (trivial)
  · replace hb4 := nb_f hb4
    refine Ex.skip ?_
    refine Ex.seq ?_
    refine Ex.regSeq (ExL.pures 1 rfl ?_)
    refine ExL.op rfl (op_ret rfl rfl rfl (c_actsFault l _ _ (by omega)) (Reads.get (Reads.old hl)) rfl rfl (fun x5 hx5 => ?_))
    refine ExL.pures 1 rfl ?_
    refine ExL.nil ?_
    refine Ex.regSeq (ExL.pures 1 rfl ?_)
    refine ExL.neq rfl rfl rfl rfl rfl rfl (fun h6 => ?_) (fun h6 => ?_)
    · refine ExL.nil ?_
      refine Ex.cond_t rfl ?_
      refine Ex.regSeq (ExL.pures 0 rfl ?_)
      refine ExL.free (fr_build rfl rfl rfl rfl) rfl rfl rfl ?_
      refine ExL.pures 1 rfl ?_
      refine ExL.op rfl (op_storeC (i := 0) rfl rfl rfl rfl rfl rfl rfl rfl rfl rfl ?_)
      refine ExL.pures 4 rfl ?_
      refine ExL.nil ?_
      refine Ex.nilRow 5 1 ?_
      refine Ex.nilRow 108 11 ?_
      refine Ex.nilRow 40 10 ?_
      refine Ex.ret ?_
      refine RetQ.mk ((none, 0), (none, 0), (none, 0)) rfl (.cell rfl (.many rfl rfl rfl (SegO.whole (i := 3) rfl)) (.tmp rfl (.tmp rfl (.tmp rfl (.tmp rfl .nil))))) (t5 (by first | (rw [rv_vd (by assumption)]; first | done | rfl) | (rw [rv_af (by assumption) (by assumption)]; first | done | rfl) | (rw [rv_nc (by assumption) (by first | assumption | exact not_not_intro (by assumption)) (by assumption)]; first | done | rfl) | (rw [rv_no (by assumption) (by first | assumption | exact not_not_intro (by assumption)) (by first | assumption | exact not_not_intro (by assumption)) (by assumption)]; first | done | rfl)) (by first | (rw [rv_vd (by assumption)]; first | done | rfl) | (rw [rv_af (by assumption) (by assumption)]; first | done | rfl) | (rw [rv_nc (by assumption) (by first | assumption | exact not_not_intro (by assumption)) (by assumption)]; first | done | rfl) | (rw [rv_no (by assumption) (by first | assumption | exact not_not_intro (by assumption)) (by first | assumption | exact not_not_intro (by assumption)) (by assumption)]; first | done | rfl)) (by first | (rw [rv_vd (by assumption)]; first | done | rfl) | (rw [rv_af (by assumption) (by assumption)]; first | done | rfl) | (rw [rv_nc (by assumption) (by first | assumption | exact not_not_intro (by assumption)) (by assumption)]; first | done | rfl) | (rw [rv_no (by assumption) (by first | assumption | exact not_not_intro (by assumption)) (by first | assumption | exact not_not_intro (by assumption)) (by assumption)]; first | done | rfl)) (by first | (rw [rv_vd (by assumption)]; first | done | rfl) | (rw [rv_af (by assumption) (by assumption)]; first | done | rfl) | (rw [rv_nc (by assumption) (by first | assumption | exact not_not_intro (by assumption)) (by assumption)]; first | done | rfl) | (rw [rv_no (by assumption) (by first | assumption | exact not_not_intro (by assumption)) (by first | assumption | exact not_not_intro (by assumption)) (by assumption)]; first | done | rfl)) (by first | (rw [rv_vd (by assumption)]; first | done | rfl) | (rw [rv_af (by assumption) (by assumption)]; first | done | rfl) | (rw [rv_nc (by assumption) (by first | assumption | exact not_not_intro (by assumption)) (by assumption)]; first | done | rfl) | (rw [rv_no (by assumption) (by first | assumption | exact not_not_intro (by assumption)) (by first | assumption | exact not_not_intro (by assumption)) (by assumption)]; first | done | rfl))) [2, 1, 0] (by first | (rw [rv_vd (by assumption)]; first | done | rfl) | (rw [rv_af (by assumption) (by assumption)]; first | done | rfl) | (rw [rv_nc (by assumption) (by first | assumption | exact not_not_intro (by assumption)) (by assumption)]; first | done | rfl) | (rw [rv_no (by assumption) (by first | assumption | exact not_not_intro (by assumption)) (by first | assumption | exact not_not_intro (by assumption)) (by assumption)]; first | done | rfl)) rfl (trivial)
    · refine ExL.nil ?_
      refine Ex.cond_f rfl ?_
      refine Ex.skip ?_
      refine Ex.regSeq (ExL.pures 0 rfl ?_)
      refine ExL.free (fr_loadN rfl rfl rfl rfl rfl (SegO.whole (i := 1) rfl)) rfl rfl rfl ?_
      refine ExL.op rfl (op_ret rfl rfl rfl (c_cloneDevice d _ _ (by omega)) (Reads.get (Reads.old hd)) rfl rfl (fun x7 hx7 => ?_))
      refine ExL.op rfl (op_buildSlice (sz := 10) rfl rfl rfl rfl rfl rfl rfl rfl (by decide) rfl rfl rfl (fun r8 => ?_))
      refine ExL.op rfl (op_alloc rfl rfl rfl rfl rfl (fun b9 => ?_))
      refine ExL.op rfl (op_alloc rfl rfl rfl rfl rfl (fun b10 => ?_))
      refine ExL.op rfl (op_storeC (i := 1) rfl rfl rfl rfl rfl rfl rfl rfl rfl rfl ?_)
      refine ExL.op rfl (op_storeC (i := 0) rfl rfl rfl rfl rfl rfl rfl rfl rfl rfl ?_)
      refine ExL.nil ?_
      refine Ex.regSeq (ExL.pures 1 rfl ?_)
      refine ExL.free (fr_makeFunc rfl rfl rfl) rfl rfl rfl ?_
      refine ExL.op rfl (op_mut rfl rfl rfl (c_notes d (by assumption) (by assumption) _ _ _ l (af_zero (by first | assumption | exact not_not_intro (by assumption))).1 (af_zero (by first | assumption | exact not_not_intro (by assumption))).2 _ _ _ _ _) (perm_4 1 2 0 0 rfl rfl rfl rfl) (hl) rfl rfl (fun x11 hx11 => ?_))
      refine ExL.pures 7 rfl ?_
      refine ExL.nil ?_
      refine Ex.seq ?_
      refine Ex.regSeq (ExL.pures 1 rfl ?_)
      refine ExL.neq rfl rfl rfl rfl rfl rfl (fun h12 => ?_) (fun h12 => ?_)
      · refine ExL.nil ?_
        refine Ex.cond_t rfl ?_
        refine Ex.regSeq (ExL.pures 0 rfl ?_)
        refine ExL.free (fr_build rfl rfl rfl rfl) rfl rfl rfl ?_
        refine ExL.pures 1 rfl ?_
        refine ExL.op rfl (op_storeC (i := 5) rfl rfl rfl rfl rfl rfl rfl rfl rfl rfl ?_)
        refine ExL.pures 4 rfl ?_
        refine ExL.nil ?_
        refine Ex.nilRow 5 1 ?_
        refine Ex.nilRow 108 11 ?_
        refine Ex.nilRow 40 10 ?_
        refine Ex.ret ?_
        refine RetQ.mk ((none, 0), (none, 0), (none, 0)) rfl (.cell rfl (.many rfl rfl rfl (SegO.whole (i := 8) rfl)) (.tmp rfl (.tmp rfl (.tmp rfl (.tmp rfl .nil))))) (t5 (by first | (rw [rv_vd (by assumption)]; first | done | rfl) | (rw [rv_af (by assumption) (by assumption)]; first | done | rfl) | (rw [rv_nc (by assumption) (by first | assumption | exact not_not_intro (by assumption)) (by assumption)]; first | done | rfl) | (rw [rv_no (by assumption) (by first | assumption | exact not_not_intro (by assumption)) (by first | assumption | exact not_not_intro (by assumption)) (by assumption)]; first | done | rfl)) (by first | (rw [rv_vd (by assumption)]; first | done | rfl) | (rw [rv_af (by assumption) (by assumption)]; first | done | rfl) | (rw [rv_nc (by assumption) (by first | assumption | exact not_not_intro (by assumption)) (by assumption)]; first | done | rfl) | (rw [rv_no (by assumption) (by first | assumption | exact not_not_intro (by assumption)) (by first | assumption | exact not_not_intro (by assumption)) (by assumption)]; first | done | rfl)) (by first | (rw [rv_vd (by assumption)]; first | done | rfl) | (rw [rv_af (by assumption) (by assumption)]; first | done | rfl) | (rw [rv_nc (by assumption) (by first | assumption | exact not_not_intro (by assumption)) (by assumption)]; first | done | rfl) | (rw [rv_no (by assumption) (by first | assumption | exact not_not_intro (by assumption)) (by first | assumption | exact not_not_intro (by assumption)) (by assumption)]; first | done | rfl)) (by first | (rw [rv_vd (by assumption)]; first | done | rfl) | (rw [rv_af (by assumption) (by assumption)]; first | done | rfl) | (rw [rv_nc (by assumption) (by first | assumption | exact not_not_intro (by assumption)) (by assumption)]; first | done | rfl) | (rw [rv_no (by assumption) (by first | assumption | exact not_not_intro (by assumption)) (by first | assumption | exact not_not_intro (by assumption)) (by assumption)]; first | done | rfl)) (by first | (rw [rv_vd (by assumption)]; first | done | rfl) | (rw [rv_af (by assumption) (by assumption)]; first | done | rfl) | (rw [rv_nc (by assumption) (by first | assumption | exact not_not_intro (by assumption)) (by assumption)]; first | done | rfl) | (rw [rv_no (by assumption) (by first | assumption | exact not_not_intro (by assumption)) (by first | assumption | exact not_not_intro (by assumption)) (by assumption)]; first | done | rfl))) [2, 1, 0] (by first | (rw [rv_vd (by assumption)]; first | done | rfl) | (rw [rv_af (by assumption) (by assumption)]; first | done | rfl) | (rw [rv_nc (by assumption) (by first | assumption | exact not_not_intro (by assumption)) (by assumption)]; first | done | rfl) | (rw [rv_no (by assumption) (by first | assumption | exact not_not_intro (by assumption)) (by first | assumption | exact not_not_intro (by assumption)) (by assumption)]; first | done | rfl)) rfl (trivial)
      · refine ExL.nil ?_
        refine Ex.cond_f rfl ?_
        refine Ex.skip ?_
        refine Ex.drawSeqI [0, 1, 2, 3, 4, 6] rfl rfl ?_
        refine ExD.take (i := 0) rfl (by kernel_rfl) (fr_loadN rfl rfl rfl rfl rfl (SegO.whole (i := 0) rfl)) ((List.Sublist.cons_cons _ (List.Sublist.cons_cons _ (List.Sublist.cons_cons _ (List.Sublist.cons_cons _ (List.Sublist.cons_cons _ (List.Sublist.cons _ (List.Sublist.refl _)))))))) rfl rfl rfl ?_
        refine ExD.take (i := 1) rfl (by kernel_rfl) (pureVal_ok rfl) ((List.Sublist.cons_cons _ (List.Sublist.cons_cons _ (List.Sublist.cons_cons _ (List.Sublist.cons_cons _ (List.Sublist.cons_cons _ (List.Sublist.cons _ (List.Sublist.refl _)))))))) rfl rfl rfl ?_
        refine ExD.take (i := 2) rfl (by kernel_rfl) (fr_load rfl rfl rfl rfl (CellO.blk (i := 2) rfl rfl)) ((List.Sublist.cons_cons _ (List.Sublist.cons_cons _ (List.Sublist.cons_cons _ (List.Sublist.cons_cons _ (List.Sublist.cons_cons _ (List.Sublist.cons _ (List.Sublist.refl _)))))))) rfl rfl rfl ?_
        refine ExD.take (i := 3) rfl (by kernel_rfl) (pureVal_ok rfl) ((List.Sublist.cons_cons _ (List.Sublist.cons_cons _ (List.Sublist.cons_cons _ (List.Sublist.cons_cons _ (List.Sublist.cons_cons _ (List.Sublist.cons _ (List.Sublist.refl _)))))))) rfl rfl rfl ?_
        refine ExD.op (i := 4) rfl (by kernel_rfl) rfl (op_storeC (i := 5) rfl rfl rfl rfl rfl rfl rfl rfl rfl rfl ⟨(List.Sublist.cons_cons _ (List.Sublist.cons_cons _ (List.Sublist.cons_cons _ (List.Sublist.cons_cons _ (List.Sublist.cons_cons _ (List.Sublist.cons _ (List.Sublist.refl _))))))), ?_⟩)
        refine ExD.take (i := 5) rfl (by kernel_rfl) (pureVal_ok rfl) ((List.Sublist.cons_cons _ (List.Sublist.cons_cons _ (List.Sublist.cons_cons _ (List.Sublist.cons_cons _ (List.Sublist.cons_cons _ (List.Sublist.cons _ (List.Sublist.refl _)))))))) rfl rfl rfl ?_
        refine ExD.take (i := 6) rfl (by kernel_rfl) (pureVal_ok rfl) ((List.Sublist.cons_cons _ (List.Sublist.cons_cons _ (List.Sublist.cons_cons _ (List.Sublist.cons_cons _ (List.Sublist.cons_cons _ (List.Sublist.cons _ (List.Sublist.refl _)))))))) rfl rfl rfl ?_
        refine ExD.take (i := 7) rfl (by kernel_rfl) (pureVal_ok rfl) ((List.Sublist.cons_cons _ (List.Sublist.cons_cons _ (List.Sublist.cons_cons _ (List.Sublist.cons_cons _ (List.Sublist.cons_cons _ (List.Sublist.cons _ (List.Sublist.refl _)))))))) rfl rfl rfl ?_
        refine ExD.take (i := 8) rfl (by kernel_rfl) (pureVal_ok rfl) ((List.Sublist.cons_cons _ (List.Sublist.cons_cons _ (List.Sublist.cons_cons _ (List.Sublist.cons_cons _ (List.Sublist.cons_cons _ (List.Sublist.cons _ (List.Sublist.refl _)))))))) rfl rfl rfl ?_
        refine ExD.done (by kernel_rfl) ?_
        refine Ex.ret ?_
        refine RetQ.mk ((x7.1, x7.2), (x11.2.2.2.1, x11.2.2.2.2), (x11.2.2.1.1, x11.2.2.1.2)) rfl (.cell rfl (.many rfl rfl rfl (SegO.whole (i := 5) rfl)) (.tmp rfl (.tmp rfl (.tmp rfl (.tmp rfl .nil))))) (t5 (by first | (rw [rv_vd (by assumption)]; first | done | rfl) | (rw [rv_af (by assumption) (by assumption)]; first | done | rfl) | (rw [rv_nc (by assumption) (by first | assumption | exact not_not_intro (by assumption)) (by assumption)]; first | done | rfl) | (rw [rv_no (by assumption) (by first | assumption | exact not_not_intro (by assumption)) (by first | assumption | exact not_not_intro (by assumption)) (by assumption)]; first | done | rfl)) (by first | (rw [rv_vd (by assumption)]; first | done | rfl) | (rw [rv_af (by assumption) (by assumption)]; first | done | rfl) | (rw [rv_nc (by assumption) (by first | assumption | exact not_not_intro (by assumption)) (by assumption)]; first | done | rfl) | (rw [rv_no (by assumption) (by first | assumption | exact not_not_intro (by assumption)) (by first | assumption | exact not_not_intro (by assumption)) (by assumption)]; first | done | rfl)) (by first | (rw [rv_vd (by assumption)]; first | done | rfl) | (rw [rv_af (by assumption) (by assumption)]; first | done | rfl) | (rw [rv_nc (by assumption) (by first | assumption | exact not_not_intro (by assumption)) (by assumption)]; first | done | rfl) | (rw [rv_no (by assumption) (by first | assumption | exact not_not_intro (by assumption)) (by first | assumption | exact not_not_intro (by assumption)) (by assumption)]; first | done | rfl)) (by first | (rw [rv_vd (by assumption)]; first | done | rfl) | (rw [rv_af (by assumption) (by assumption)]; first | done | rfl) | (rw [rv_nc (by assumption) (by first | assumption | exact not_not_intro (by assumption)) (by assumption)]; first | done | rfl) | (rw [rv_no (by assumption) (by first | assumption | exact not_not_intro (by assumption)) (by first | assumption | exact not_not_intro (by assumption)) (by assumption)]; first | done | rfl)) (by first | (rw [rv_vd (by assumption)]; first | done | rfl) | (rw [rv_af (by assumption) (by assumption)]; first | done | rfl) | (rw [rv_nc (by assumption) (by first | assumption | exact not_not_intro (by assumption)) (by assumption)]; first | done | rfl) | (rw [rv_no (by assumption) (by first | assumption | exact not_not_intro (by assumption)) (by first | assumption | exact not_not_intro (by assumption)) (by assumption)]; first | done | rfl))) [1, 4, 3] (by first | (rw [rv_vd (by assumption)]; first | done | rfl) | (rw [rv_af (by assumption) (by assumption)]; first | done | rfl) | (rw [rv_nc (by assumption) (by first | assumption | exact not_not_intro (by assumption)) (by assumption)]; first | done | rfl) | (rw [rv_no (by assumption) (by first | assumption | exact not_not_intro (by assumption)) (by first | assumption | exact not_not_intro (by assumption)) (by assumption)]; first | done | rfl)) rfl (trivial)
end Go.Proofs.YtiibhahhjkaodaaGreatDoor

/- What these functions of the program hand back, each proved by walking its operations. -/
set_option linter.unusedVariables false
set_option linter.unusedSimpArgs false
set_option maxRecDepth 4000
namespace Go.Proofs.YtiibhahhjkaodaaGreatDoor
open Go Go.Sx Go.RowKit Go.W Go.Proofs
attribute [local irreducible] Ex ExL ExD Op1 Free RetQ MutQ Reads CellO SegO LoadsAs
theorem e_7 : Enters Tryz.prog 7 := Enters.of Tryz.func7 rfl
theorem c_iTicketsOf (d : VDev) (hk : OkDev d) (Ad : Option Addr) (cd : Nat) (hAd : Ad = none → cd = 0) (hdl : d.stack.length ≤ 1048576) (l : List VAct) (Al : Option Addr) (cl : Nat) (hll : l.length ≤ maxLen) : Ret Tryz.prog 7 [.agg (encV Ad cd d).toArray, .slice Al l.length cl] (fun w => Rd w Ad (d.stack.flatMap (eI .u8)) ∧ Rd w Al (l.flatMap encA)) (fun x : Option Addr × Nat => .tuple #[.slice x.1 (runV d l).2.2.1.length x.2, .int .i64 (runV d l).2.2.2.2]) (fun x => [.row (.slice x.1 ((runV d l).2.2.1).length x.2) 40 10 ((runV d l).2.2.1).length (((runV d l).2.2.1).flatMap encT)]) (fun x => True) := by
  refine Ret.of e_7 Tryz.func7 rfl Tryz.ntmps7 rfl rfl (fun w hpre => ?_)
  have hd := hpre.1.base
  have hl := hpre.2.base
  have hN := run_notes (l := l) hk
  have hm0 : maxLen = 9223372036854775807 := rfl
  refine Ex.regSeq (ExL.pures 0 rfl ?_)
  refine ExL.op rfl (op_box rfl rfl rfl rfl rfl (fun b1 => ?_))
  refine ExL.pures 2 rfl ?_
  refine ExL.nil ?_
  refine Ex.regSeq (ExL.pures 0 rfl ?_)
  refine ExL.free (fr_loadN rfl rfl rfl rfl rfl (SegO.whole (i := 0) rfl)) rfl rfl rfl ?_
  refine ExL.pures 1 rfl ?_
  refine ExL.op rfl (op_ret rfl rfl rfl (c_played d (by assumption) _ _ (by omega) l _ _ (by omega)) (fun w hw => ⟨Reads.get (Reads.old hd) w hw, Reads.get (Reads.old hl) w hw⟩) rfl rfl (fun x2 hx2 => ?_))
  refine ExL.pures 6 rfl ?_
  refine ExL.op rfl (op_alloc rfl rfl rfl rfl rfl (fun b3 => ?_))
  refine ExL.op rfl (op_storeC (i := 0) rfl rfl rfl rfl rfl rfl rfl rfl rfl rfl ?_)
  refine ExL.pures 4 rfl ?_
  refine ExL.nil ?_
  refine Ex.regSeq (ExL.pures 4 rfl ?_)
  refine ExL.nil ?_
  refine Ex.ret ?_
  refine RetQ.mk (x2.2.2.1, x2.2.2.2) rfl (.tmp rfl (.tmp rfl .nil)) (rfl) [3] (rfl) rfl (trivial)
theorem e_8 : Enters Tryz.prog 8 := Enters.of Tryz.func8 rfl
theorem c_sTicketsOf (d : VDev) (hk : OkDev d) (Ad : Option Addr) (cd : Nat) (hAd : Ad = none → cd = 0) (hdl : d.stack.length ≤ 1048576) (l : List VAct) (Al : Option Addr) (cl : Nat) (hll : l.length ≤ maxLen) : Ret Tryz.prog 8 [.agg (encV Ad cd d).toArray, .slice Al l.length cl] (fun w => Rd w Ad (d.stack.flatMap (eI .u8)) ∧ Rd w Al (l.flatMap encA)) (fun x : Option Addr × Nat => .tuple #[.slice x.1 (runV d l).2.2.1.length x.2, .int .i64 (runV d l).2.2.2.2]) (fun x => [.row (.slice x.1 ((runV d l).2.2.1).length x.2) 40 10 ((runV d l).2.2.1).length (((runV d l).2.2.1).flatMap encT)]) (fun x => True) := by
  refine Ret.of e_8 Tryz.func8 rfl Tryz.ntmps8 rfl rfl (fun w hpre => ?_)
  have hd := hpre.1.base
  have hl := hpre.2.base
  have hN := run_notes (l := l) hk
  have hm0 : maxLen = 9223372036854775807 := rfl
  refine Ex.regSeq (ExL.pures 0 rfl ?_)
  refine ExL.op rfl (op_box rfl rfl rfl rfl rfl (fun b1 => ?_))
  refine ExL.pures 2 rfl ?_
  refine ExL.nil ?_
  refine Ex.regSeq (ExL.pures 1 rfl ?_)
  refine ExL.op rfl (op_ret rfl rfl rfl (c_l07Run d (by assumption) _ _ _ (by first | assumption | exact (fun e => nomatch e)) (by omega) l _ _ (by first | omega | (simp; omega))) (fun w hw => ⟨Reads.get (Reads.blk (i := 0) rfl) w hw, Reads.get (Reads.old hd) w hw, Reads.get (Reads.old hl) w hw⟩) rfl rfl (fun x2 hx2 => ?_))
  refine ExL.pures 5 rfl ?_
  refine ExL.op rfl (op_alloc rfl rfl rfl rfl rfl (fun b3 => ?_))
  refine ExL.op rfl (op_storeC (i := 0) rfl rfl rfl rfl rfl rfl rfl rfl rfl rfl ?_)
  refine ExL.pures 3 rfl ?_
  refine ExL.nil ?_
  refine Ex.regSeq (ExL.pures 4 rfl ?_)
  refine ExL.nil ?_
  refine Ex.ret ?_
  refine RetQ.mk (x2.2.2.1, x2.2.2.2) rfl (.tmp rfl (.tmp rfl .nil)) (rfl) [3] (rfl) rfl (trivial)
end Go.Proofs.YtiibhahhjkaodaaGreatDoor

/- What these functions of the program hand back, each proved by walking its operations. -/
set_option linter.unusedVariables false
set_option linter.unusedSimpArgs false
set_option maxRecDepth 4000
namespace Go.Proofs.YtiibhahhjkaodaaGreatDoor
open Go Go.Sx Go.RowKit Go.W Go.Proofs
attribute [local irreducible] Ex ExL ExD Op1 Free RetQ MutQ Reads CellO SegO LoadsAs
end Go.Proofs.YtiibhahhjkaodaaGreatDoor

/- What these functions of the program hand back, each proved by walking its operations. -/
set_option linter.unusedVariables false
set_option linter.unusedSimpArgs false
set_option maxRecDepth 4000
namespace Go.Proofs.YtiibhahhjkaodaaGreatDoor
open Go Go.Sx Go.RowKit Go.W Go.Proofs
attribute [local irreducible] Ex ExL ExD Op1 Free RetQ MutQ Reads CellO SegO LoadsAs
end Go.Proofs.YtiibhahhjkaodaaGreatDoor

/- What these functions of the program hand back, each proved by walking its operations. -/
set_option linter.unusedVariables false
set_option linter.unusedSimpArgs false
set_option maxRecDepth 4000
namespace Go.Proofs.YtiibhahhjkaodaaGreatDoor
open Go Go.Sx Go.RowKit Go.W Go.Proofs
attribute [local irreducible] Ex ExL ExD Op1 Free RetQ MutQ Reads CellO SegO LoadsAs
end Go.Proofs.YtiibhahhjkaodaaGreatDoor

/- What these functions of the program hand back, each proved by walking its operations. -/
set_option linter.unusedVariables false
set_option linter.unusedSimpArgs false
set_option maxRecDepth 4000
namespace Go.Proofs.YtiibhahhjkaodaaGreatDoor
open Go Go.Sx Go.RowKit Go.W Go.Proofs
attribute [local irreducible] Ex ExL ExD Op1 Free RetQ MutQ Reads CellO SegO LoadsAs
end Go.Proofs.YtiibhahhjkaodaaGreatDoor

/- What these functions of the program hand back, each proved by walking its operations. -/
set_option linter.unusedVariables false
set_option linter.unusedSimpArgs false
set_option maxRecDepth 4000
namespace Go.Proofs.YtiibhahhjkaodaaGreatDoor
open Go Go.Sx Go.RowKit Go.W Go.Proofs
attribute [local irreducible] Ex ExL ExD Op1 Free RetQ MutQ Reads CellO SegO LoadsAs
end Go.Proofs.YtiibhahhjkaodaaGreatDoor
