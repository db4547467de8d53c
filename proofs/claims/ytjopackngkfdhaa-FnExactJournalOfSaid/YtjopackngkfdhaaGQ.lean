/- What these functions of the program hand back, each proved by walking its operations. -/
import Derived.Test.YtjopackngkfdhaaProg
import Derived.Test.YtjopackngkfdhaaFw
import Derived.Test.YtjopackngkfdhaaGS2
import Derived.Test.YtjopackngkfdhaaM7
set_option linter.unusedVariables false
set_option linter.unusedSimpArgs false
set_option maxRecDepth 4000
namespace Go.Proofs.Ytjopackngkfdhaa
open Go Go.Sx Go.RowKit Go.W Go.Proofs
attribute [local irreducible] Ex ExL ExD Op1 Free RetQ MutQ Reads CellO SegO LoadsAs
theorem e_154 : Enters Try.prog 154 := Enters.of Try.func154 rfl
theorem c_l07Asked (d : VDev) (hk : OkDev d) (Ad : Option Addr) (cd : Nat) (b : Nat) (l : List VAct) (Al : Option Addr) (cl : Nat) (hll : l.length ≤ maxLen) : Ret Try.prog 154 [.pointer (some ⟨b, 0, none⟩), .slice Al l.length cl] (fun w => Rd w (some ⟨b, 0, none⟩) (encV Ad cd d) ∧ Rd w Ad (d.stack.flatMap (eI .u8)) ∧ Rd w Al (l.flatMap encA)) (fun x : Unit => .int .i64 (askV d l)) (fun x => []) (fun x => True) := by
  refine Ret.of e_154 Try.func154 rfl Try.ntmps154 rfl rfl (fun w hpre => ?_)
  have hp := hpre.1.base
  have hd := hpre.2.1.base
  have hl := hpre.2.2.base
  have hm0 : maxLen = 9223372036854775807 := rfl
  refine Ex.regSeq (ExL.pures 1 rfl ?_)
  refine ExL.nil ?_
  refine Ex.regSeq (ExL.pures 1 rfl ?_)
  refine ExL.op rfl (op_ret rfl rfl rfl (c_l07Ok d (by assumption) _ _ _) (fun w hw => ⟨Reads.get (Reads.old hp) w hw, Reads.get (Reads.old hd) w hw⟩) rfl rfl (fun x1 hx1 => ?_))
  refine ExL.pures 1 rfl ?_
  refine ExL.nil ?_
  refine Ex.seq ?_
  refine Ex.regSeq (ExL.pures 1 rfl ?_)
  refine ExL.nil ?_
  refine Ex.block ?_
  refine Ex.loopK (X := Nat) (fun k => [(5, .bool (okB d l k)), (6, .int .i64 k)]) (fun k => []) (fun k => k ≤ l.length ∧ ∀ i, i < k → okB d l i = true) (fun k => l.length - k) 0 [(1, _), (4, _)] [] 0 [] ⟨rfl, rfl, trivial⟩ ⟨rfl, rfl, trivial⟩ (rfl) rfl ⟨Nat.zero_le _, fun i hi => by omega⟩ (fun k hI => ?_)
  have hI : k ≤ l.length ∧ ∀ i, i < k → okB d l i = true := hI
  obtain ⟨hkl, hall⟩ := hI
  refine Ex.seq ?_
  refine Ex.regSeq (ExL.pures 3 rfl ?_)
  refine ExL.lss rfl rfl rfl rfl rfl rfl (fun h2 => ?_) (fun h2 => ?_)
  · refine ExL.pures 3 rfl ?_
    refine ExL.nil ?_
    refine Ex.cond rfl (fun hb3 => ?_) (fun hb3 => ?_)
    · refine Ex.skip ?_
      refine Ex.seq ?_
      refine Ex.block ?_
      refine Ex.region (ExL.pures 2 rfl ?_)
      refine ExL.free (fr_indexAddrF (Reads.old hl) encA_len rfl rfl rfl rfl rfl rfl (by omega)) rfl rfl rfl ?_
      refine ExL.free (fr_loadN rfl rfl rfl rfl rfl (by first | exact segN (Reads.old hl) encA_len rfl zA (by omega) | exact segF (Reads.old hl) encA_len rfl zA (by omega))) rfl rfl rfl ?_
      refine ExL.op rfl (op_ret rfl rfl rfl (c_l07Act _) (fun _ _ => trivial) rfl rfl (fun x4 hx4 => ?_))
      refine ExL.pures 1 rfl ?_
      refine ExL.nil ?_
      refine Ex.region (ExL.pures 1 rfl ?_)
      refine ExL.free (by first | exact fr_add64 rfl rfl rfl (by omega) | exact fr_add rfl rfl rfl) rfl rfl rfl ?_
      refine ExL.pures 1 rfl ?_
      refine ExL.nil ?_
      refine Hand.mk (k + 1) 0 [] ⟨rfl, rfl, trivial⟩ ⟨rfl, rfl, trivial⟩ (rfl) rfl (⟨by omega, all_snoc hall (by assumption)⟩) (by omega)
    · refine Ex.exit ?_
      refine Ex.seq ?_
      refine Ex.regSeq (ExL.pures 2 rfl ?_)
      refine ExL.nil ?_
      refine Ex.cond rfl (fun hb5 => ?_) (fun hb5 => ?_)
      · replace hb5 := nb_t hb5
        refine Ex.regSeq (ExL.pures 1 rfl ?_)
        refine ExL.nil ?_
        refine Ex.ret ?_
        refine RetQ.mk () rfl (.tmp rfl .nil) (tI (by first | exact ask_f (k := k) (by omega) hall (by assumption) | exact ask_3 (k := k) (by omega) (by omega) hall (by assumption) (by omega) | exact ask_0 (k := k) (by omega) (by omega) hall (by assumption) (by omega) | (exfalso; simp_all; done))) [] (rfl) rfl (trivial)
      · replace hb5 := nb_f hb5
        refine Ex.skip ?_
        refine Ex.seq ?_
        refine Ex.regSeq (ExL.pures 2 rfl ?_)
        refine ExL.gtr rfl rfl rfl rfl rfl rfl (fun h6 => ?_) (fun h6 => ?_)
        · refine ExL.nil ?_
          refine Ex.cond_t rfl ?_
          refine Ex.regSeq (ExL.pures 1 rfl ?_)
          refine ExL.nil ?_
          refine Ex.ret ?_
          refine RetQ.mk () rfl (.tmp rfl .nil) (tI (by first | exact ask_f (k := k) (by omega) hall (by assumption) | exact ask_3 (k := k) (by omega) (by omega) hall (by assumption) (by omega) | exact ask_0 (k := k) (by omega) (by omega) hall (by assumption) (by omega) | (exfalso; simp_all; done))) [] (rfl) rfl (trivial)
        · refine ExL.nil ?_
          refine Ex.cond_f rfl ?_
          refine Ex.skip ?_
          refine Ex.regSeq (ExL.pures 1 rfl ?_)
          refine ExL.nil ?_
          refine Ex.ret ?_
          refine RetQ.mk () rfl (.tmp rfl .nil) (tI (by first | exact ask_f (k := k) (by omega) hall (by assumption) | exact ask_3 (k := k) (by omega) (by omega) hall (by assumption) (by omega) | exact ask_0 (k := k) (by omega) (by omega) hall (by assumption) (by omega) | (exfalso; simp_all; done))) [] (rfl) rfl (trivial)
  · refine ExL.pures 3 rfl ?_
    refine ExL.nil ?_
    refine Ex.cond_f rfl ?_
    refine Ex.exit ?_
    refine Ex.seq ?_
    refine Ex.regSeq (ExL.pures 2 rfl ?_)
    refine ExL.nil ?_
    refine Ex.cond rfl (fun hb7 => ?_) (fun hb7 => ?_)
    · replace hb7 := nb_t hb7
      refine Ex.regSeq (ExL.pures 1 rfl ?_)
      refine ExL.nil ?_
      refine Ex.ret ?_
      refine RetQ.mk () rfl (.tmp rfl .nil) (tI (by first | exact ask_f (k := k) (by omega) hall (by assumption) | exact ask_3 (k := k) (by omega) (by omega) hall (by assumption) (by omega) | exact ask_0 (k := k) (by omega) (by omega) hall (by assumption) (by omega) | (exfalso; simp_all; done))) [] (rfl) rfl (trivial)
    · replace hb7 := nb_f hb7
      refine Ex.skip ?_
      refine Ex.seq ?_
      refine Ex.regSeq (ExL.pures 2 rfl ?_)
      refine ExL.gtr rfl rfl rfl rfl rfl rfl (fun h8 => ?_) (fun h8 => ?_)
      · refine ExL.nil ?_
        refine Ex.cond_t rfl ?_
        refine Ex.regSeq (ExL.pures 1 rfl ?_)
        refine ExL.nil ?_
        refine Ex.ret ?_
        refine RetQ.mk () rfl (.tmp rfl .nil) (tI (by first | exact ask_f (k := k) (by omega) hall (by assumption) | exact ask_3 (k := k) (by omega) (by omega) hall (by assumption) (by omega) | exact ask_0 (k := k) (by omega) (by omega) hall (by assumption) (by omega) | (exfalso; simp_all; done))) [] (rfl) rfl (trivial)
      · refine ExL.nil ?_
        refine Ex.cond_f rfl ?_
        refine Ex.skip ?_
        refine Ex.regSeq (ExL.pures 1 rfl ?_)
        refine ExL.nil ?_
        refine Ex.ret ?_
        refine RetQ.mk () rfl (.tmp rfl .nil) (tI (by first | exact ask_f (k := k) (by omega) hall (by assumption) | exact ask_3 (k := k) (by omega) (by omega) hall (by assumption) (by omega) | exact ask_0 (k := k) (by omega) (by omega) hall (by assumption) (by omega) | (exfalso; simp_all; done))) [] (rfl) rfl (trivial)
theorem e_133 : Enters Try.prog 133 := Enters.of Try.func133 rfl
theorem c_ticket (d : VDev) (hk : OkDev d) (hv : validDev d = true) (Ad : Option Addr) (cd : Nat) (b : Nat) : Ret Try.prog 133 [.pointer (some ⟨b, 0, none⟩)] (fun w => Rd w (some ⟨b, 0, none⟩) (encV Ad cd d)) (fun x : Unit => .agg (encT (ticV d)).toArray) (fun x => []) (fun x => True) := by
  refine Ret.of e_133 Try.func133 rfl Try.ntmps133 rfl rfl (fun w hpre => ?_)
  have hp := hpre.base
  obtain ⟨hl, hu, ha, hpp, htt⟩ := hk
  have hO := devOk ha hv
  have hvs : validStack d.stack = true := by unfold validDev at hv; rw [decide_eq_true_iff] at hv; exact hv.1
  have hvd := hO.vd
  have hm0 : maxLen = 9223372036854775807 := rfl
  have hz := sizeS hO
  have hle := hO.stk.le
  have hps := hO.stk.pos
  have hlt : 0 ≤ val d.stack d.shows.l ∧ val d.stack d.shows.l < prod d.stack := hO.v_lt
  have hpr := hO.preset
  have htk := hO.tick
  have htk := hO.tick
  refine Ex.regSeq (ExL.pures 0 rfl ?_)
  refine ExL.op rfl (op_alloc rfl rfl rfl rfl rfl (fun b1 => ?_))
  refine ExL.nil ?_
  refine Ex.drawSeqI [] rfl rfl ?_
  refine ExD.take (i := 0) rfl (by kernel_rfl) (pureVal_ok rfl) ((List.nil_sublist _)) rfl rfl rfl ?_
  refine ExD.take (i := 1) rfl (by kernel_rfl) (pureVal_ok rfl) ((List.nil_sublist _)) rfl rfl rfl ?_
  refine ExD.take (i := 2) rfl (by kernel_rfl) (pureVal_ok rfl) ((List.nil_sublist _)) rfl rfl rfl ?_
  refine ExD.take (i := 3) rfl (by kernel_rfl) (fr_load rfl rfl rfl rfl (CellO.at 11 (Reads.old hp) rfl)) ((List.nil_sublist _)) rfl rfl rfl ?_
  refine ExD.take (i := 4) rfl (by kernel_rfl) (pureVal_ok rfl) ((List.nil_sublist _)) rfl rfl rfl ?_
  refine ExD.take (i := 5) rfl (by kernel_rfl) (pureVal_ok rfl) ((List.nil_sublist _)) rfl rfl rfl ?_
  refine ExD.take (i := 6) rfl (by kernel_rfl) (pureVal_ok rfl) ((List.nil_sublist _)) rfl rfl rfl ?_
  refine ExD.take (i := 7) rfl (by kernel_rfl) (fr_loadN rfl rfl rfl rfl rfl (SegO.at 1 8 (Reads.old hp) rfl)) ((List.nil_sublist _)) rfl rfl rfl ?_
  refine ExD.take (i := 8) rfl (by kernel_rfl) (pureVal_ok rfl) ((List.nil_sublist _)) rfl rfl rfl ?_
  refine ExD.take (i := 9) rfl (by kernel_rfl) (pureVal_ok rfl) ((List.nil_sublist _)) rfl rfl rfl ?_
  refine ExD.take (i := 10) rfl (by kernel_rfl) (pureVal_ok rfl) ((List.nil_sublist _)) rfl rfl rfl ?_
  refine ExD.take (i := 11) rfl (by kernel_rfl) (fr_load rfl rfl rfl rfl (CellO.at 11 (Reads.old hp) rfl)) ((List.nil_sublist _)) rfl rfl rfl ?_
  refine ExD.take (i := 12) rfl (by kernel_rfl) (pureVal_ok rfl) ((List.nil_sublist _)) rfl rfl rfl ?_
  refine ExD.take (i := 13) rfl (by kernel_rfl) (pureVal_ok rfl) ((List.nil_sublist _)) rfl rfl rfl ?_
  refine ExD.take (i := 14) rfl (by kernel_rfl) (pureVal_ok rfl) ((List.nil_sublist _)) rfl rfl rfl ?_
  refine ExD.take (i := 15) rfl (by kernel_rfl) (fr_loadN rfl rfl rfl rfl rfl (SegO.at 1 8 (Reads.old hp) rfl)) ((List.nil_sublist _)) rfl rfl rfl ?_
  refine ExD.op (i := 16) rfl (by kernel_rfl) rfl (op_ret rfl rfl rfl (c_check _ (by omega) d.shows (by assumption)) (fun _ _ => trivial) rfl rfl (fun x2 hx2 => ⟨(List.nil_sublist _), ?_⟩))
  refine ExD.take (i := 17) rfl (by kernel_rfl) (fr_build (cells := encT (ticV d)) rfl rfl rfl (by kernel_rfl)) ((List.nil_sublist _)) rfl rfl rfl ?_
  refine ExD.op (i := 18) rfl (by kernel_rfl) rfl (op_storeC (i := 0) rfl rfl rfl rfl rfl rfl rfl rfl rfl rfl ⟨(List.nil_sublist _), ?_⟩)
  refine ExD.done (by kernel_rfl) ?_
  refine Ex.ret ?_
  refine RetQ.mk () rfl (.cell rfl (.many rfl rfl rfl (SegO.whole (i := 0) rfl)) .nil) (rfl) [] (rfl) rfl (trivial)
end Go.Proofs.Ytjopackngkfdhaa
