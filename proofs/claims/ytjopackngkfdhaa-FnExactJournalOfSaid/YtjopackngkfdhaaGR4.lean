/- What these functions of the program hand back, each proved by walking its operations. -/
import Derived.Test.YtjopackngkfdhaaProg
import Derived.Test.YtjopackngkfdhaaFw
import Derived.Test.YtjopackngkfdhaaGR3
set_option linter.unusedVariables false
set_option linter.unusedSimpArgs false
set_option maxRecDepth 4000
namespace Go.Proofs.Ytjopackngkfdhaa
open Go Go.Sx Go.RowKit Go.W Go.Proofs
attribute [local irreducible] Ex ExL ExD Op1 Free RetQ MutQ Reads CellO SegO LoadsAs
theorem e_77 : Enters Try.prog 77 := Enters.of Try.func77 rfl
theorem c_iDoActs (d : VDev) (hk : OkDev d) (Ad : Option Addr) (cd : Nat) (hAd : Ad = none → cd = 0) (hdl : d.stack.length ≤ 1048576) (l : List VAct) (Al : Option Addr) (cl : Nat) (hll : l.length ≤ maxLen) : Ret Try.prog 77 [.agg (encV Ad cd d).toArray, .slice Al l.length cl] (fun w => Rd w Ad (d.stack.flatMap (eI .u8)) ∧ Rd w Al (l.flatMap encA)) (fun x : Option Addr × Nat => .tuple #[.agg (encV x.1 x.2 (runV d l).1).toArray, .int .i64 (runV d l).2.2.2.1, .int .i64 (runV d l).2.2.2.2]) (fun x => [.row (.slice x.1 (runV d l).1.stack.length x.2) 5 1 (runV d l).1.stack.length ((runV d l).1.stack.flatMap (eI .u8))]) (fun x => True) := by
  refine Ret.of e_77 Try.func77 rfl Try.ntmps77 rfl rfl (fun w hpre => ?_)
  have hd := hpre.1.base
  have hl := hpre.2.base
  have hN := run_notes (l := l) hk
  have hm0 : maxLen = 9223372036854775807 := rfl
  refine Ex.regSeq (ExL.pures 0 rfl ?_)
  refine ExL.op rfl (op_box rfl rfl rfl rfl rfl (fun b1 => ?_))
  refine ExL.op rfl (op_alloc rfl rfl rfl rfl rfl (fun b2 => ?_))
  refine ExL.pures 2 rfl ?_
  refine ExL.nil ?_
  refine Ex.regSeq (ExL.pures 0 rfl ?_)
  refine ExL.free (fr_loadN rfl rfl rfl rfl rfl (SegO.whole (i := 1) rfl)) rfl rfl rfl ?_
  refine ExL.pures 1 rfl ?_
  refine ExL.op rfl (op_ret rfl rfl rfl (c_played d (by assumption) _ _ (by omega) l _ _ (by omega)) (fun w hw => ⟨Reads.get (Reads.old hd) w hw, Reads.get (Reads.old hl) w hw⟩) rfl rfl (fun x3 hx3 => ?_))
  refine ExL.pures 6 rfl ?_
  refine ExL.op rfl (op_alloc rfl rfl rfl rfl rfl (fun b4 => ?_))
  refine ExL.op rfl (op_storeC (i := 0) rfl rfl rfl rfl rfl rfl rfl rfl rfl rfl ?_)
  refine ExL.pures 4 rfl ?_
  refine ExL.nil ?_
  refine Ex.regSeq (ExL.pures 0 rfl ?_)
  refine ExL.free (fr_loadN rfl rfl rfl rfl rfl (SegO.whole (i := 0) rfl)) rfl rfl rfl ?_
  refine ExL.pures 2 rfl ?_
  refine ExL.op rfl (op_storeC (i := 4) rfl rfl rfl rfl rfl rfl rfl rfl rfl rfl ?_)
  refine ExL.pures 2 rfl ?_
  refine ExL.nil ?_
  refine Ex.ret ?_
  refine RetQ.mk (x3.1.1, x3.1.2) rfl (.cell rfl (.many rfl rfl rfl (SegO.whole (i := 4) rfl)) (.tmp rfl (.tmp rfl .nil))) (rfl) [1] (rfl) rfl (trivial)
theorem e_76 : Enters Try.prog 76 := Enters.of Try.func76 rfl
theorem c_sDoActs (d : VDev) (hk : OkDev d) (Ad : Option Addr) (cd : Nat) (hAd : Ad = none → cd = 0) (hdl : d.stack.length ≤ 1048576) (l : List VAct) (Al : Option Addr) (cl : Nat) (hll : l.length ≤ maxLen) : Ret Try.prog 76 [.agg (encV Ad cd d).toArray, .slice Al l.length cl] (fun w => Rd w Ad (d.stack.flatMap (eI .u8)) ∧ Rd w Al (l.flatMap encA)) (fun x : Option Addr × Nat => .tuple #[.agg (encV x.1 x.2 (runV d l).1).toArray, .int .i64 (runV d l).2.2.2.1, .int .i64 (runV d l).2.2.2.2]) (fun x => [.row (.slice x.1 (runV d l).1.stack.length x.2) 5 1 (runV d l).1.stack.length ((runV d l).1.stack.flatMap (eI .u8))]) (fun x => True) := by
  refine Ret.of e_76 Try.func76 rfl Try.ntmps76 rfl rfl (fun w hpre => ?_)
  have hd := hpre.1.base
  have hl := hpre.2.base
  have hN := run_notes (l := l) hk
  have hm0 : maxLen = 9223372036854775807 := rfl
  refine Ex.regSeq (ExL.pures 0 rfl ?_)
  refine ExL.op rfl (op_box rfl rfl rfl rfl rfl (fun b1 => ?_))
  refine ExL.op rfl (op_alloc rfl rfl rfl rfl rfl (fun b2 => ?_))
  refine ExL.pures 2 rfl ?_
  refine ExL.nil ?_
  refine Ex.regSeq (ExL.pures 1 rfl ?_)
  refine ExL.op rfl (op_ret rfl rfl rfl (c_l07Run d (by assumption) _ _ _ (by first | assumption | exact (fun e => nomatch e)) (by omega) l _ _ (by first | omega | (simp; omega))) (fun w hw => ⟨Reads.get (Reads.blk (i := 1) rfl) w hw, Reads.get (Reads.old hd) w hw, Reads.get (Reads.old hl) w hw⟩) rfl rfl (fun x3 hx3 => ?_))
  refine ExL.pures 5 rfl ?_
  refine ExL.op rfl (op_alloc rfl rfl rfl rfl rfl (fun b4 => ?_))
  refine ExL.op rfl (op_storeC (i := 0) rfl rfl rfl rfl rfl rfl rfl rfl rfl rfl ?_)
  refine ExL.pures 3 rfl ?_
  refine ExL.nil ?_
  refine Ex.regSeq (ExL.pures 1 rfl ?_)
  refine ExL.nil ?_
  refine Ex.seq ?_
  refine Ex.regSeq (ExL.pures 1 rfl ?_)
  refine ExL.nil ?_
  refine Ex.block ?_
  refine Ex.loopK (X := Nat) (fun k => [(11, .int .i64 (sumN (runV d l).2.1 k)), (12, .int .i64 k)]) (fun k => []) (fun k => k ≤ (runV d l).2.1.length) (fun k => (runV d l).2.1.length - k) 0 [(4, _), (5, _), (6, _), (7, _), (8, _), (10, _)] [_, _, _, _] 6 [0, 1, 2, 4] ⟨rfl, rfl, trivial⟩ ⟨rfl, rfl, rfl, rfl, rfl, rfl, trivial⟩ (rfl) rfl (Nat.zero_le _) (fun k hI => ?_)
  have hI : k ≤ (runV d l).2.1.length := hI
  obtain ⟨hn60, hns, hnb⟩ := hN
  refine Ex.seq ?_
  refine Ex.regSeq (ExL.pures 3 rfl ?_)
  refine ExL.lss rfl rfl rfl rfl rfl rfl (fun h5 => ?_) (fun h5 => ?_)
  · refine ExL.nil ?_
    refine Ex.cond_t rfl ?_
    refine Ex.skip ?_
    refine Ex.seq ?_
    refine Ex.block ?_
    have hkl : k < (runV d l).2.1.length := (by omega)
    have hb1 := hnb k (by omega)
    have hb2 := hnb (k + 1) (by omega)
    rw [sumN] at hb2
    refine Ex.region (ExL.pures 3 rfl ?_)
    refine ExL.free (fr_indexAddrR (sz := 11) 2 rfl rfl rfl rfl rfl rfl (by omega)) rfl rfl rfl ?_
    refine ExL.free (fr_fieldAddrR 2 rfl (by omega) rfl rfl rfl rfl rfl rfl) rfl rfl rfl ?_
    refine ExL.free (fr_load rfl rfl rfl rfl (by first | exact cellN (Reads.row (i := 2) rfl) encN_len zN 10 rfl (by omega) rfl | exact cellF (Reads.row (i := 2) rfl) encN_len zN 10 rfl (by omega) rfl)) rfl rfl rfl ?_
    refine ExL.free (by first | exact fr_add64 rfl rfl rfl (by omega) | exact fr_add rfl rfl rfl) rfl rfl rfl ?_
    refine ExL.pures 1 rfl ?_
    refine ExL.nil ?_
    refine Ex.region (ExL.pures 1 rfl ?_)
    refine ExL.free (by first | exact fr_add64 rfl rfl rfl (by omega) | exact fr_add rfl rfl rfl) rfl rfl rfl ?_
    refine ExL.pures 1 rfl ?_
    refine ExL.nil ?_
    refine Hand.mk (k + 1) 4 [0, 1, 2, 3] ⟨rfl, rfl, trivial⟩ ⟨rfl, rfl, rfl, rfl, rfl, rfl, trivial⟩ (rfl) rfl (by omega) (by omega)
  · refine ExL.nil ?_
    refine Ex.cond_f rfl ?_
    refine Ex.exit ?_
    have hkn : k = (runV d l).2.1.length := (by omega)
    refine Ex.regSeq (ExL.pures 0 rfl ?_)
    refine ExL.free (fr_loadN rfl rfl rfl rfl rfl (SegO.whole (i := 0) rfl)) rfl rfl rfl ?_
    refine ExL.pures 2 rfl ?_
    refine ExL.op rfl (op_storeC (i := 3) rfl rfl rfl rfl rfl rfl rfl rfl rfl rfl ?_)
    refine ExL.pures 2 rfl ?_
    refine ExL.nil ?_
    refine Ex.ret ?_
    refine RetQ.mk (x3.1.1, x3.1.2) rfl (.cell rfl (.many rfl rfl rfl (SegO.whole (i := 3) rfl)) (.tmp rfl (.tmp rfl .nil))) (t3 rfl (vI (by rw [hkn]; exact hns)) rfl) [1] (rfl) rfl (trivial)
theorem e_86 : Enters Try.prog 86 := Enters.of Try.func86 rfl
theorem c_iTicketsOf (d : VDev) (hk : OkDev d) (Ad : Option Addr) (cd : Nat) (hAd : Ad = none → cd = 0) (hdl : d.stack.length ≤ 1048576) (l : List VAct) (Al : Option Addr) (cl : Nat) (hll : l.length ≤ maxLen) : Ret Try.prog 86 [.agg (encV Ad cd d).toArray, .slice Al l.length cl] (fun w => Rd w Ad (d.stack.flatMap (eI .u8)) ∧ Rd w Al (l.flatMap encA)) (fun x : Option Addr × Nat => .tuple #[.slice x.1 (runV d l).2.2.1.length x.2, .int .i64 (runV d l).2.2.2.2]) (fun x => [.row (.slice x.1 ((runV d l).2.2.1).length x.2) 53 10 ((runV d l).2.2.1).length (((runV d l).2.2.1).flatMap encT)]) (fun x => True) := by
  refine Ret.of e_86 Try.func86 rfl Try.ntmps86 rfl rfl (fun w hpre => ?_)
  have hd := hpre.1.base
  have hl := hpre.2.base
  have hN := run_notes (l := l) hk
  have hm0 : maxLen = 9223372036854775807 := rfl
  refine Ex.regSeq (ExL.pures 0 rfl ?_)
  refine ExL.op rfl (op_box rfl rfl rfl rfl rfl (fun b1 => ?_))
  refine ExL.pures 2 rfl ?_
  refine ExL.nil ?_
  refine Ex.regSeq (ExL.pures 0 rfl ?_)
  refine ExL.free (fr_loadN rfl rfl rfl rfl rfl (SegO.whole (i := 0) rfl)) rfl rfl rfl ?_
  refine ExL.pures 1 rfl ?_
  refine ExL.op rfl (op_ret rfl rfl rfl (c_played d (by assumption) _ _ (by omega) l _ _ (by omega)) (fun w hw => ⟨Reads.get (Reads.old hd) w hw, Reads.get (Reads.old hl) w hw⟩) rfl rfl (fun x2 hx2 => ?_))
  refine ExL.pures 6 rfl ?_
  refine ExL.op rfl (op_alloc rfl rfl rfl rfl rfl (fun b3 => ?_))
  refine ExL.op rfl (op_storeC (i := 0) rfl rfl rfl rfl rfl rfl rfl rfl rfl rfl ?_)
  refine ExL.pures 4 rfl ?_
  refine ExL.nil ?_
  refine Ex.regSeq (ExL.pures 4 rfl ?_)
  refine ExL.nil ?_
  refine Ex.ret ?_
  refine RetQ.mk (x2.2.2.1, x2.2.2.2) rfl (.tmp rfl (.tmp rfl .nil)) (rfl) [3] (rfl) rfl (trivial)
theorem e_89 : Enters Try.prog 89 := Enters.of Try.func89 rfl
theorem c_sTicketsOf (d : VDev) (hk : OkDev d) (Ad : Option Addr) (cd : Nat) (hAd : Ad = none → cd = 0) (hdl : d.stack.length ≤ 1048576) (l : List VAct) (Al : Option Addr) (cl : Nat) (hll : l.length ≤ maxLen) : Ret Try.prog 89 [.agg (encV Ad cd d).toArray, .slice Al l.length cl] (fun w => Rd w Ad (d.stack.flatMap (eI .u8)) ∧ Rd w Al (l.flatMap encA)) (fun x : Option Addr × Nat => .tuple #[.slice x.1 (runV d l).2.2.1.length x.2, .int .i64 (runV d l).2.2.2.2]) (fun x => [.row (.slice x.1 ((runV d l).2.2.1).length x.2) 53 10 ((runV d l).2.2.1).length (((runV d l).2.2.1).flatMap encT)]) (fun x => True) := by
  refine Ret.of e_89 Try.func89 rfl Try.ntmps89 rfl rfl (fun w hpre => ?_)
  have hd := hpre.1.base
  have hl := hpre.2.base
  have hN := run_notes (l := l) hk
  have hm0 : maxLen = 9223372036854775807 := rfl
  refine Ex.regSeq (ExL.pures 0 rfl ?_)
  refine ExL.op rfl (op_box rfl rfl rfl rfl rfl (fun b1 => ?_))
  refine ExL.pures 2 rfl ?_
  refine ExL.nil ?_
  refine Ex.regSeq (ExL.pures 1 rfl ?_)
  refine ExL.op rfl (op_ret rfl rfl rfl (c_l07Run d (by assumption) _ _ _ (by first | assumption | exact (fun e => nomatch e)) (by omega) l _ _ (by first | omega | (simp; omega))) (fun w hw => ⟨Reads.get (Reads.blk (i := 0) rfl) w hw, Reads.get (Reads.old hd) w hw, Reads.get (Reads.old hl) w hw⟩) rfl rfl (fun x2 hx2 => ?_))
  refine ExL.pures 5 rfl ?_
  refine ExL.op rfl (op_alloc rfl rfl rfl rfl rfl (fun b3 => ?_))
  refine ExL.op rfl (op_storeC (i := 0) rfl rfl rfl rfl rfl rfl rfl rfl rfl rfl ?_)
  refine ExL.pures 3 rfl ?_
  refine ExL.nil ?_
  refine Ex.regSeq (ExL.pures 4 rfl ?_)
  refine ExL.nil ?_
  refine Ex.ret ?_
  refine RetQ.mk (x2.2.2.1, x2.2.2.2) rfl (.tmp rfl (.tmp rfl .nil)) (rfl) [3] (rfl) rfl (trivial)
theorem e_81 : Enters Try.prog 81 := Enters.of Try.func81 rfl
theorem c_iJournalOf (d : VDev) (hk : OkDev d) (Ad : Option Addr) (cd : Nat) (hAd : Ad = none → cd = 0) (hdl : d.stack.length ≤ 1048576) (l : List VAct) (Al : Option Addr) (cl : Nat) (hll : l.length ≤ maxLen) : Ret Try.prog 81 [.agg (encV Ad cd d).toArray, .slice Al l.length cl] (fun w => Rd w Ad (d.stack.flatMap (eI .u8)) ∧ Rd w Al (l.flatMap encA)) (fun x : Option Addr × Nat => .tuple #[.slice x.1 (runV d l).2.1.length x.2, .int .i64 (runV d l).2.2.2.2]) (fun x => [.row (.slice x.1 ((runV d l).2.1).length x.2) 109 11 ((runV d l).2.1).length (((runV d l).2.1).flatMap encN)]) (fun x => True) := by
  refine Ret.of e_81 Try.func81 rfl Try.ntmps81 rfl rfl (fun w hpre => ?_)
  have hd := hpre.1.base
  have hl := hpre.2.base
  have hN := run_notes (l := l) hk
  have hm0 : maxLen = 9223372036854775807 := rfl
  refine Ex.regSeq (ExL.pures 0 rfl ?_)
  refine ExL.op rfl (op_box rfl rfl rfl rfl rfl (fun b1 => ?_))
  refine ExL.pures 2 rfl ?_
  refine ExL.nil ?_
  refine Ex.regSeq (ExL.pures 0 rfl ?_)
  refine ExL.free (fr_loadN rfl rfl rfl rfl rfl (SegO.whole (i := 0) rfl)) rfl rfl rfl ?_
  refine ExL.pures 1 rfl ?_
  refine ExL.op rfl (op_ret rfl rfl rfl (c_played d (by assumption) _ _ (by omega) l _ _ (by omega)) (fun w hw => ⟨Reads.get (Reads.old hd) w hw, Reads.get (Reads.old hl) w hw⟩) rfl rfl (fun x2 hx2 => ?_))
  refine ExL.pures 6 rfl ?_
  refine ExL.op rfl (op_alloc rfl rfl rfl rfl rfl (fun b3 => ?_))
  refine ExL.op rfl (op_storeC (i := 0) rfl rfl rfl rfl rfl rfl rfl rfl rfl rfl ?_)
  refine ExL.pures 4 rfl ?_
  refine ExL.nil ?_
  refine Ex.regSeq (ExL.pures 4 rfl ?_)
  refine ExL.nil ?_
  refine Ex.ret ?_
  refine RetQ.mk (x2.2.1.1, x2.2.1.2) rfl (.tmp rfl (.tmp rfl .nil)) (rfl) [2] (rfl) rfl (trivial)
theorem e_82 : Enters Try.prog 82 := Enters.of Try.func82 rfl
theorem c_sJournalOf (d : VDev) (hk : OkDev d) (Ad : Option Addr) (cd : Nat) (hAd : Ad = none → cd = 0) (hdl : d.stack.length ≤ 1048576) (l : List VAct) (Al : Option Addr) (cl : Nat) (hll : l.length ≤ maxLen) : Ret Try.prog 82 [.agg (encV Ad cd d).toArray, .slice Al l.length cl] (fun w => Rd w Ad (d.stack.flatMap (eI .u8)) ∧ Rd w Al (l.flatMap encA)) (fun x : Option Addr × Nat => .tuple #[.slice x.1 (runV d l).2.1.length x.2, .int .i64 (runV d l).2.2.2.2]) (fun x => [.row (.slice x.1 ((runV d l).2.1).length x.2) 109 11 ((runV d l).2.1).length (((runV d l).2.1).flatMap encN)]) (fun x => True) := by
  refine Ret.of e_82 Try.func82 rfl Try.ntmps82 rfl rfl (fun w hpre => ?_)
  have hd := hpre.1.base
  have hl := hpre.2.base
  have hN := run_notes (l := l) hk
  have hm0 : maxLen = 9223372036854775807 := rfl
  refine Ex.regSeq (ExL.pures 0 rfl ?_)
  refine ExL.op rfl (op_box rfl rfl rfl rfl rfl (fun b1 => ?_))
  refine ExL.pures 2 rfl ?_
  refine ExL.nil ?_
  refine Ex.regSeq (ExL.pures 1 rfl ?_)
  refine ExL.op rfl (op_ret rfl rfl rfl (c_l07Run d (by assumption) _ _ _ (by first | assumption | exact (fun e => nomatch e)) (by omega) l _ _ (by first | omega | (simp; omega))) (fun w hw => ⟨Reads.get (Reads.blk (i := 0) rfl) w hw, Reads.get (Reads.old hd) w hw, Reads.get (Reads.old hl) w hw⟩) rfl rfl (fun x2 hx2 => ?_))
  refine ExL.pures 5 rfl ?_
  refine ExL.op rfl (op_alloc rfl rfl rfl rfl rfl (fun b3 => ?_))
  refine ExL.op rfl (op_storeC (i := 0) rfl rfl rfl rfl rfl rfl rfl rfl rfl rfl ?_)
  refine ExL.pures 3 rfl ?_
  refine ExL.nil ?_
  refine Ex.regSeq (ExL.pures 4 rfl ?_)
  refine ExL.nil ?_
  refine Ex.ret ?_
  refine RetQ.mk (x2.2.1.1, x2.2.1.2) rfl (.tmp rfl (.tmp rfl .nil)) (rfl) [2] (rfl) rfl (trivial)
end Go.Proofs.Ytjopackngkfdhaa
