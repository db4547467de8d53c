/- What these functions of the program hand back, each proved by walking its operations. -/
import Derived.Test.YtjopackngkfdhaaProg
import Derived.Test.YtjopackngkfdhaaFw
import Derived.Test.YtjopackngkfdhaaM4
import Derived.Test.YtjopackngkfdhaaGV
set_option linter.unusedVariables false
set_option linter.unusedSimpArgs false
set_option maxRecDepth 4000
namespace Go.Proofs.Ytjopackngkfdhaa
open Go Go.Sx Go.RowKit Go.W Go.Proofs
attribute [local irreducible] Ex ExL ExD Op1 Free RetQ MutQ Reads CellO SegO LoadsAs
theorem e_51 : Enters Try.prog 51 := Enters.of Try.func51 rfl
theorem c_szTicketS (s : List VTic) (As : Option Addr) (cs : Nat) (hls : s.length ≤ maxLen) (n : Int) (hn : 0 ≤ n ∧ n ≤ 1048576) : Ret Try.prog 51 [.slice As s.length cs, .int .i64 n] (fun w => True) (fun x : Int => .int .i64 x) (fun x => []) (fun x => x ≤ n ∧ (0 ≤ x → (s.length : Int) ≤ n)) := by
  refine Ret.of e_51 Try.func51 rfl Try.ntmps51 rfl rfl (fun w hpre => ?_)
  have hm0 : maxLen = 9223372036854775807 := rfl
  refine Ex.regSeq (ExL.pures 1 rfl ?_)
  refine ExL.nil ?_
  refine Ex.regSeq (ExL.pures 3 rfl ?_)
  refine ExL.free (by first | exact fr_sub64 rfl rfl rfl (by omega) | exact fr_sub rfl rfl rfl) rfl rfl rfl ?_
  refine ExL.pures 1 rfl ?_
  refine ExL.nil ?_
  refine Ex.seq ?_
  refine Ex.regSeq (ExL.pures 1 rfl ?_)
  refine ExL.lss rfl rfl rfl rfl rfl rfl (fun h1 => ?_) (fun h1 => ?_)
  · refine ExL.nil ?_
    refine Ex.cond_t rfl ?_
    refine Ex.regSeq (ExL.pures 1 rfl ?_)
    refine ExL.nil ?_
    refine Ex.ret ?_
    refine RetQ.mk _ rfl (.tmp rfl .nil) (rfl) [] (rfl) rfl (by first | omega | (simp; omega))
  · refine ExL.nil ?_
    refine Ex.cond_f rfl ?_
    refine Ex.skip ?_
    refine Ex.regSeq (ExL.pures 2 rfl ?_)
    refine ExL.nil ?_
    refine Ex.ret ?_
    refine RetQ.mk _ rfl (.tmp rfl .nil) (rfl) [] (rfl) rfl (by first | omega | (simp; omega))
theorem e_35 : Enters Try.prog 35 := Enters.of Try.func35 rfl
theorem c_toTicket (a : VTic) : Ret Try.prog 35 [.agg (encT a).toArray] (fun w => True) (fun x : Unit => .agg (encT a).toArray) (fun x => []) (fun x => True) := by
  refine Ret.of e_35 Try.func35 rfl Try.ntmps35 rfl rfl (fun w hpre => ?_)
  refine Ex.regSeq (ExL.pures 0 rfl ?_)
  refine ExL.op rfl (op_box rfl rfl rfl rfl rfl (fun b1 => ?_))
  refine ExL.op rfl (op_alloc rfl rfl rfl rfl rfl (fun b2 => ?_))
  refine ExL.nil ?_
  refine Ex.regSeq (ExL.pures 0 rfl ?_)
  refine ExL.op rfl (op_alloc rfl rfl rfl rfl rfl (fun b3 => ?_))
  refine ExL.nil ?_
  refine Ex.regSeq (ExL.pures 1 rfl ?_)
  refine ExL.free (fr_load rfl rfl rfl rfl (CellO.blk (i := 2) rfl rfl)) rfl rfl rfl ?_
  refine ExL.pures 1 rfl ?_
  refine ExL.op rfl (op_storeC (i := 0) rfl rfl rfl rfl rfl rfl rfl rfl rfl rfl ?_)
  refine ExL.nil ?_
  refine Ex.regSeq (ExL.pures 1 rfl ?_)
  refine ExL.free (fr_loadN rfl rfl rfl rfl rfl (SegO.part (i := 2) 8 rfl)) rfl rfl rfl ?_
  refine ExL.op rfl (op_ret rfl rfl rfl (c_toDigits a.shows) (fun _ _ => trivial) rfl rfl (fun x4 hx4 => ?_))
  refine ExL.pures 1 rfl ?_
  refine ExL.op rfl (op_storeC (i := 0) rfl rfl rfl rfl rfl rfl rfl rfl rfl rfl ?_)
  refine ExL.nil ?_
  refine Ex.regSeq (ExL.pures 1 rfl ?_)
  refine ExL.free (fr_load rfl rfl rfl rfl (CellO.blk (i := 2) rfl rfl)) rfl rfl rfl ?_
  refine ExL.pures 1 rfl ?_
  refine ExL.op rfl (op_storeC (i := 0) rfl rfl rfl rfl rfl rfl rfl rfl rfl rfl ?_)
  refine ExL.nil ?_
  refine Ex.regSeq (ExL.pures 0 rfl ?_)
  refine ExL.free (fr_loadN rfl rfl rfl rfl rfl (SegO.whole (i := 0) rfl)) rfl rfl rfl ?_
  refine ExL.op rfl (op_storeC (i := 1) rfl rfl rfl rfl rfl rfl rfl rfl rfl rfl ?_)
  refine ExL.nil ?_
  refine Ex.ret ?_
  refine RetQ.mk () rfl (.cell rfl (.many rfl rfl rfl (SegO.whole (i := 1) rfl)) .nil) (rfl) [] (rfl) rfl (trivial)
theorem e_53 : Enters Try.prog 53 := Enters.of Try.func53 rfl
theorem c_toTicketS (s : List VTic) (As : Option Addr) (cs : Nat) (hls : s.length ≤ 1048576) : Ret Try.prog 53 [.slice As s.length cs] (fun w => Rd w As (s.flatMap encT)) (fun x : Nat => .slice (some ⟨x, 0, none⟩) s.length s.length) (fun x => [.row (.slice (some ⟨x, 0, none⟩) s.length s.length) 53 10 s.length (s.flatMap encT)]) (fun x => True) := by
  refine Ret.of e_53 Try.func53 rfl Try.ntmps53 rfl rfl (fun w hpre => ?_)
  have hs := hpre.base
  refine Ex.regSeq (ExL.pures 1 rfl ?_)
  refine ExL.nil ?_
  refine Ex.regSeq (ExL.pures 2 rfl ?_)
  refine ExL.op rfl (op_makeSlice (sz := 24) rfl rfl rfl rfl rfl rfl rfl rfl (⟨by omega, by unfold maxLen; omega⟩) rfl rfl (fun r1 => ?_))
  refine ExL.pures 1 rfl ?_
  refine ExL.nil ?_
  refine Ex.seq ?_
  refine Ex.regSeq (ExL.pures 1 rfl ?_)
  refine ExL.nil ?_
  refine Ex.block ?_
  refine Ex.loopK (X := Nat) (fun k => [(4, .int .i64 k)]) (fun k => [.row (.slice (some ⟨r1, 0, none⟩) s.length s.length) 53 10 s.length ((Sx.part zT s k).flatMap encT)]) (fun k => k ≤ s.length) (fun k => s.length - k) 0 [(0, _), (2, _), (3, _)] [] 1 [0] ⟨rfl, trivial⟩ ⟨rfl, rfl, rfl, trivial⟩ (pkR (zpart encT_len zT rfl s rfl)) rfl (Nat.zero_le _) (fun k hI => ?_)
  have hI : k ≤ s.length := hI
  refine Ex.seq ?_
  refine Ex.regSeq (ExL.pures 3 rfl ?_)
  refine ExL.lss rfl rfl rfl rfl rfl rfl (fun h2 => ?_) (fun h2 => ?_)
  · refine ExL.nil ?_
    refine Ex.cond_t rfl ?_
    refine Ex.skip ?_
    refine Ex.seq ?_
    refine Ex.block ?_
    refine Ex.region (ExL.pures 4 rfl ?_)
    refine ExL.free (fr_indexAddrF (Reads.old hs) encT_len rfl rfl rfl rfl rfl rfl (by omega)) rfl rfl rfl ?_
    refine ExL.free (fr_loadN rfl rfl rfl rfl rfl (by first | exact segN (Reads.old hs) encT_len rfl zT (by omega) | exact segF (Reads.old hs) encT_len rfl zT (by omega))) rfl rfl rfl ?_
    refine ExL.op rfl (op_ret rfl rfl rfl (c_toTicket (s.getD k zT)) (fun _ _ => trivial) rfl rfl (fun x3 hx3 => ?_))
    refine ExL.free (fr_indexAddr (sz := 10) rfl rfl rfl rfl rfl rfl (by omega)) rfl rfl rfl ?_
    refine ExL.op rfl (op_storeRow (i := 0) rfl rfl rfl rfl rfl rfl rfl rfl (room encT_len (k := k) (part_lt (by omega) (by omega)) (by first | rfl | simp) rfl) (List.cons_ne_nil _ _) rfl ?_)
    refine ExL.nil ?_
    refine Ex.region (ExL.pures 1 rfl ?_)
    refine ExL.free (by first | exact fr_add64 rfl rfl rfl (by omega) | exact fr_add rfl rfl rfl) rfl rfl rfl ?_
    refine ExL.pures 1 rfl ?_
    refine ExL.nil ?_
    refine Hand.mk (k + 1) 1 [0] ⟨rfl, trivial⟩ ⟨rfl, rfl, rfl, trivial⟩ (pkR (part_put encT_len zT zT s k (by omega) (by simp) rfl)) rfl (by omega) (by omega)
  · refine ExL.nil ?_
    refine Ex.cond_f rfl ?_
    refine Ex.exit ?_
    refine Ex.regSeq (ExL.pures 2 rfl ?_)
    refine ExL.nil ?_
    refine Ex.ret ?_
    refine RetQ.mk _ rfl (.tmp rfl .nil) (rfl) [0] (pkR (by obtain rfl : k = s.length := (by omega); rw [part_all])) rfl (trivial)
theorem e_75 : Enters Try.prog 75 := Enters.of Try.func75 rfl
theorem c_eqTicket (a b : VTic) : Ret Try.prog 75 [.agg (encT a).toArray, .agg (encT b).toArray] (fun w => True) (fun x : Unit => .bool (sameT a b)) (fun x => []) (fun x => True) := by
  refine Ret.of e_75 Try.func75 rfl Try.ntmps75 rfl rfl (fun w hpre => ?_)
  refine Ex.regSeq (ExL.pures 0 rfl ?_)
  refine ExL.op rfl (op_box rfl rfl rfl rfl rfl (fun b1 => ?_))
  refine ExL.op rfl (op_box rfl rfl rfl rfl rfl (fun b2 => ?_))
  refine ExL.pures 1 rfl ?_
  refine ExL.nil ?_
  refine Ex.seq ?_
  refine Ex.regSeq (ExL.pures 1 rfl ?_)
  refine ExL.free (fr_load rfl rfl rfl rfl (CellO.blk (i := 1) rfl rfl)) rfl rfl rfl ?_
  refine ExL.pures 1 rfl ?_
  refine ExL.free (fr_load rfl rfl rfl rfl (CellO.blk (i := 0) rfl rfl)) rfl rfl rfl ?_
  refine ExL.neq rfl rfl rfl rfl rfl rfl (fun h3 => ?_) (fun h3 => ?_)
  · refine ExL.nil ?_
    refine Ex.cond_t rfl ?_
    refine Ex.regSeq (ExL.pures 1 rfl ?_)
    refine ExL.nil ?_
    refine Ex.ret ?_
    refine RetQ.mk () rfl (.tmp rfl .nil) (tB (by first | rfl | (unfold sameT; first | exact dec_t (by simp_all) | exact dec_f (by simp_all) | exact decide_eq_decide.2 (by simp_all)))) [] (rfl) rfl (trivial)
  · refine ExL.nil ?_
    refine Ex.cond_f rfl ?_
    refine Ex.skip ?_
    refine Ex.seq ?_
    refine Ex.regSeq (ExL.pures 1 rfl ?_)
    refine ExL.free (fr_loadN rfl rfl rfl rfl rfl (SegO.part (i := 1) 8 rfl)) rfl rfl rfl ?_
    refine ExL.pures 1 rfl ?_
    refine ExL.free (fr_loadN rfl rfl rfl rfl rfl (SegO.part (i := 0) 8 rfl)) rfl rfl rfl ?_
    refine ExL.op rfl (op_ret rfl rfl rfl (c_eqDigits a.shows b.shows) (fun _ _ => trivial) rfl rfl (fun x4 hx4 => ?_))
    refine ExL.pures 1 rfl ?_
    refine ExL.nil ?_
    refine Ex.cond rfl (fun hb5 => ?_) (fun hb5 => ?_)
    · replace hb5 := nd_t hb5
      refine Ex.regSeq (ExL.pures 1 rfl ?_)
      refine ExL.nil ?_
      refine Ex.ret ?_
      refine RetQ.mk () rfl (.tmp rfl .nil) (tB (by first | rfl | (unfold sameT; first | exact dec_t (by simp_all) | exact dec_f (by simp_all) | exact decide_eq_decide.2 (by simp_all)))) [] (rfl) rfl (trivial)
    · replace hb5 := nd_f hb5
      refine Ex.skip ?_
      refine Ex.seq ?_
      refine Ex.regSeq (ExL.pures 1 rfl ?_)
      refine ExL.free (fr_load rfl rfl rfl rfl (CellO.blk (i := 1) rfl rfl)) rfl rfl rfl ?_
      refine ExL.pures 1 rfl ?_
      refine ExL.free (fr_load rfl rfl rfl rfl (CellO.blk (i := 0) rfl rfl)) rfl rfl rfl ?_
      refine ExL.neq rfl rfl rfl rfl rfl rfl (fun h6 => ?_) (fun h6 => ?_)
      · refine ExL.nil ?_
        refine Ex.cond_t rfl ?_
        refine Ex.regSeq (ExL.pures 1 rfl ?_)
        refine ExL.nil ?_
        refine Ex.ret ?_
        refine RetQ.mk () rfl (.tmp rfl .nil) (tB (by first | rfl | (unfold sameT; first | exact dec_t (by simp_all) | exact dec_f (by simp_all) | exact decide_eq_decide.2 (by simp_all)))) [] (rfl) rfl (trivial)
      · refine ExL.nil ?_
        refine Ex.cond_f rfl ?_
        refine Ex.skip ?_
        refine Ex.regSeq (ExL.pures 1 rfl ?_)
        refine ExL.nil ?_
        refine Ex.ret ?_
        refine RetQ.mk () rfl (.tmp rfl .nil) (tB (by first | rfl | (unfold sameT; first | exact dec_t (by simp_all) | exact dec_f (by simp_all) | exact decide_eq_decide.2 (by simp_all)))) [] (rfl) rfl (trivial)
theorem e_55 : Enters Try.prog 55 := Enters.of Try.func55 rfl
theorem c_eqTicketS (s : List VTic) (As : Option Addr) (cs : Nat) (hls : s.length ≤ maxLen) (t : List VTic) (At : Option Addr) (ct : Nat) (hlt : t.length ≤ maxLen) : Ret Try.prog 55 [.slice As s.length cs, .slice At t.length ct] (fun w => Rd w As (s.flatMap encT) ∧ Rd w At (t.flatMap encT)) (fun x : Unit => .bool (allEq sameT zT s t)) (fun x => []) (fun x => True) := by
  refine Ret.of e_55 Try.func55 rfl Try.ntmps55 rfl rfl (fun w hpre => ?_)
  have hs := hpre.1.base
  have ht := hpre.2.base
  have hm0 : maxLen = 9223372036854775807 := rfl
  refine Ex.regSeq (ExL.pures 1 rfl ?_)
  refine ExL.nil ?_
  refine Ex.seq ?_
  refine Ex.regSeq (ExL.pures 4 rfl ?_)
  refine ExL.neq rfl rfl rfl rfl rfl rfl (fun h1 => ?_) (fun h1 => ?_)
  · refine ExL.nil ?_
    refine Ex.cond_t rfl ?_
    refine Ex.regSeq (ExL.pures 1 rfl ?_)
    refine ExL.nil ?_
    refine Ex.ret ?_
    refine RetQ.mk () rfl (.tmp rfl .nil) (tB (by first | exact ae_len (by omega) | exact ae_no k (by omega) (by assumption) | exact ae_yes (k := k) (by omega) (by omega) hall)) [] (rfl) rfl (trivial)
  · refine ExL.nil ?_
    refine Ex.cond_f rfl ?_
    refine Ex.skip ?_
    refine Ex.seq ?_
    refine Ex.regSeq (ExL.pures 1 rfl ?_)
    refine ExL.nil ?_
    refine Ex.block ?_
    refine Ex.loopK (X := Nat) (fun k => [(5, .int .i64 k)]) (fun k => []) (fun k => k ≤ s.length ∧ ∀ i, i < k → sameT (s.getD i zT) (t.getD i zT) = true) (fun k => s.length - k) 0 [(0, _), (1, _)] [] 0 [] ⟨rfl, trivial⟩ ⟨rfl, rfl, trivial⟩ (rfl) rfl ⟨Nat.zero_le _, fun i hi => by omega⟩ (fun k hI => ?_)
    have hI : k ≤ s.length ∧ ∀ i, i < k → sameT (s.getD i zT) (t.getD i zT) = true := hI
    obtain ⟨hk, hall⟩ := hI
    refine Ex.seq ?_
    refine Ex.regSeq (ExL.pures 3 rfl ?_)
    refine ExL.lss rfl rfl rfl rfl rfl rfl (fun h2 => ?_) (fun h2 => ?_)
    · refine ExL.nil ?_
      refine Ex.cond_t rfl ?_
      refine Ex.skip ?_
      refine Ex.seq ?_
      refine Ex.block ?_
      refine Ex.drawSeqM rfl ?_
      refine ExD.take (i := 0) rfl (by kernel_rfl) (pureVal_ok rfl) ((List.Sublist.refl _)) rfl rfl rfl ?_
      refine ExD.take (i := 1) rfl (by kernel_rfl) (pureVal_ok rfl) ((List.Sublist.refl _)) rfl rfl rfl ?_
      refine ExD.take (i := 2) rfl (by kernel_rfl) (fr_indexAddrF (Reads.old hs) encT_len rfl rfl rfl rfl rfl rfl (by omega)) ((List.Sublist.refl _)) rfl rfl rfl ?_
      refine ExD.take (i := 3) rfl (by kernel_rfl) (fr_loadN rfl rfl rfl rfl rfl (by first | exact segN (Reads.old hs) encT_len rfl zT (by omega) | exact segF (Reads.old hs) encT_len rfl zT (by omega))) ((List.Sublist.refl _)) rfl rfl rfl ?_
      refine ExD.take (i := 4) rfl (by kernel_rfl) (pureVal_ok rfl) ((List.Sublist.refl _)) rfl rfl rfl ?_
      refine ExD.take (i := 5) rfl (by kernel_rfl) (pureVal_ok rfl) ((List.Sublist.refl _)) rfl rfl rfl ?_
      refine ExD.take (i := 6) rfl (by kernel_rfl) (fr_indexAddrF (Reads.old ht) encT_len rfl rfl rfl rfl rfl rfl (by omega)) ((List.Sublist.refl _)) rfl rfl rfl ?_
      refine ExD.take (i := 7) rfl (by kernel_rfl) (fr_loadN rfl rfl rfl rfl rfl (by first | exact segN (Reads.old ht) encT_len rfl zT (by omega) | exact segF (Reads.old ht) encT_len rfl zT (by omega))) ((List.Sublist.refl _)) rfl rfl rfl ?_
      refine ExD.op (i := 8) rfl (by kernel_rfl) rfl (op_ret rfl rfl rfl (c_eqTicket (s.getD k zT) (t.getD k zT)) (fun _ _ => trivial) rfl rfl (fun x3 hx3 => ⟨(List.Sublist.refl _), ?_⟩))
      refine ExD.take (i := 9) rfl (by kernel_rfl) (pureVal_ok rfl) ((List.Sublist.refl _)) rfl rfl rfl ?_
      refine ExD.done (by kernel_rfl) ?_
      refine Ex.cond rfl (fun hb4 => ?_) (fun hb4 => ?_)
      · replace hb4 := nb_t hb4
        refine Ex.regSeq (ExL.pures 1 rfl ?_)
        refine ExL.nil ?_
        refine Ex.ret ?_
        refine RetQ.mk () rfl (.tmp rfl .nil) (tB (by first | exact ae_len (by omega) | exact ae_no k (by omega) (by assumption) | exact ae_yes (k := k) (by omega) (by omega) hall)) [] (rfl) rfl (trivial)
      · replace hb4 := nb_f hb4
        refine Ex.skip ?_
        refine Ex.region (ExL.pures 1 rfl ?_)
        refine ExL.free (by first | exact fr_add64 rfl rfl rfl (by omega) | exact fr_add rfl rfl rfl) rfl rfl rfl ?_
        refine ExL.pures 1 rfl ?_
        refine ExL.nil ?_
        refine Hand.mk (k + 1) 0 [] ⟨rfl, trivial⟩ ⟨rfl, rfl, trivial⟩ (rfl) rfl (⟨by omega, all_snoc hall (by first | assumption | omega)⟩) (by omega)
    · refine ExL.nil ?_
      refine Ex.cond_f rfl ?_
      refine Ex.exit ?_
      refine Ex.regSeq (ExL.pures 1 rfl ?_)
      refine ExL.nil ?_
      refine Ex.ret ?_
      refine RetQ.mk () rfl (.tmp rfl .nil) (tB (by first | exact ae_len (by omega) | exact ae_no k (by omega) (by assumption) | exact ae_yes (k := k) (by omega) (by omega) hall)) [] (rfl) rfl (trivial)
theorem e_107 : Enters Try.prog 107 := Enters.of Try.func107 rfl
theorem c_genuine (s : List Int) (hv : validStack s = true) (hu : Nums 255 s) (As : Option Addr) (cs : Nat) (hls : s.length ≤ maxLen) (t : VTic) (ht : OkTic t) : Ret Try.prog 107 [.slice As s.length cs, .agg (encT t).toArray] (fun w => Rd w As (s.flatMap (eI .u8))) (fun x : Unit => .bool (genT s t)) (fun x => []) (fun x => True) := by
  refine Ret.of e_107 Try.func107 rfl Try.ntmps107 rfl rfl (fun w hpre => ?_)
  have hs := hpre.base
  obtain ⟨hnn, ha, hck⟩ := ht
  have hm0 : maxLen = 9223372036854775807 := rfl
  refine Ex.regSeq (ExL.pures 0 rfl ?_)
  refine ExL.op rfl (op_box rfl rfl rfl rfl rfl (fun b1 => ?_))
  refine ExL.pures 1 rfl ?_
  refine ExL.nil ?_
  refine Ex.drawSeqM rfl ?_
  refine ExD.take (i := 0) rfl (by kernel_rfl) (pureVal_ok rfl) ((List.Sublist.refl _)) rfl rfl rfl ?_
  refine ExD.take (i := 1) rfl (by kernel_rfl) (fr_load rfl rfl rfl rfl (CellO.blk (i := 0) rfl rfl)) ((List.Sublist.refl _)) rfl rfl rfl ?_
  refine ExD.op (i := 2) rfl (by kernel_rfl) rfl (op_ret rfl rfl rfl (c_within _ _ _) (fun _ _ => trivial) rfl rfl (fun x2 hx2 => ⟨(List.Sublist.refl _), ?_⟩))
  refine ExD.take (i := 3) rfl (by kernel_rfl) (pureVal_ok rfl) ((List.Sublist.refl _)) rfl rfl rfl ?_
  refine ExD.bool (d := 8) rfl (fun hb3 => ?_) (fun hb3 => ?_)
  · replace hb3 := of_decide_eq_true hb3
    refine ExD.take (i := 4) rfl (by kernel_rfl) (pureVal_ok rfl) ((List.Sublist.refl _)) rfl rfl rfl ?_
    refine ExD.take (i := 5) rfl (by kernel_rfl) (pureVal_ok rfl) ((List.Sublist.refl _)) rfl rfl rfl ?_
    refine ExD.take (i := 6) rfl (by kernel_rfl) (fr_loadN rfl rfl rfl rfl rfl (SegO.part (i := 0) 8 rfl)) ((List.Sublist.refl _)) rfl rfl rfl ?_
    refine ExD.op (i := 7) rfl (by kernel_rfl) rfl (op_ret rfl rfl rfl (c_iValidDigits s (by assumption) _ _ (by omega) t.shows (by assumption)) (Reads.get (Reads.old hs)) rfl rfl (fun x4 hx4 => ⟨(List.Sublist.refl _), ?_⟩))
    refine ExD.take (i := 8) rfl (by kernel_rfl) (pureVal_ok rfl) ((List.Sublist.refl _)) rfl rfl rfl ?_
    refine ExD.take (i := 9) rfl (by kernel_rfl) (pureVal_ok rfl) ((List.Sublist.refl _)) rfl rfl rfl ?_
    refine ExD.bool (d := 14) rfl (fun hb5 => ?_) (fun hb5 => ?_)
    · refine ExD.take (i := 10) rfl (by kernel_rfl) (pureVal_ok rfl) ((List.Sublist.refl _)) rfl rfl rfl ?_
      refine ExD.take (i := 11) rfl (by kernel_rfl) (fr_load rfl rfl rfl rfl (CellO.blk (i := 0) rfl rfl)) ((List.Sublist.refl _)) rfl rfl rfl ?_
      refine ExD.take (i := 12) rfl (by kernel_rfl) (pureVal_ok rfl) ((List.Sublist.refl _)) rfl rfl rfl ?_
      refine ExD.take (i := 13) rfl (by kernel_rfl) (fr_load rfl rfl rfl rfl (CellO.blk (i := 0) rfl rfl)) ((List.Sublist.refl _)) rfl rfl rfl ?_
      refine ExD.take (i := 14) rfl (by kernel_rfl) (pureVal_ok rfl) ((List.Sublist.refl _)) rfl rfl rfl ?_
      refine ExD.take (i := 15) rfl (by kernel_rfl) (fr_loadN rfl rfl rfl rfl rfl (SegO.part (i := 0) 8 rfl)) ((List.Sublist.refl _)) rfl rfl rfl ?_
      refine ExD.op (i := 16) rfl (by kernel_rfl) rfl (op_ret rfl rfl rfl (c_check _ (by omega) t.shows (by assumption)) (fun _ _ => trivial) rfl rfl (fun x6 hx6 => ⟨(List.Sublist.refl _), ?_⟩))
      refine ExD.cmp_eql (i := 17) rfl (by kernel_rfl) rfl rfl rfl ((List.Sublist.refl _)) rfl rfl rfl (fun h7 => ?_) (fun h7 => ?_)
      · refine ExD.take (i := 18) rfl (by kernel_rfl) (pureVal_ok rfl) ((List.Sublist.refl _)) rfl rfl rfl ?_
        refine ExD.take (i := 19) rfl (by kernel_rfl) (pureVal_ok rfl) ((List.Sublist.refl _)) rfl rfl rfl ?_
        refine ExD.done (by kernel_rfl) ?_
        refine Ex.ret ?_
        refine RetQ.mk () rfl (.tmp rfl .nil) (tB (by unfold genT; first | exact dec_f (by rintro ⟨q1, q2, q3⟩; omega) | exact dec_f (by rintro ⟨q1, q2, q3⟩; simp_all; done) | exact dec_t ⟨by omega, by simp_all, by omega⟩)) [] (rfl) rfl (trivial)
      · refine ExD.take (i := 18) rfl (by kernel_rfl) (pureVal_ok rfl) ((List.Sublist.refl _)) rfl rfl rfl ?_
        refine ExD.take (i := 19) rfl (by kernel_rfl) (pureVal_ok rfl) ((List.Sublist.refl _)) rfl rfl rfl ?_
        refine ExD.done (by kernel_rfl) ?_
        refine Ex.ret ?_
        refine RetQ.mk () rfl (.tmp rfl .nil) (tB (by unfold genT; first | exact dec_f (by rintro ⟨q1, q2, q3⟩; omega) | exact dec_f (by rintro ⟨q1, q2, q3⟩; simp_all; done) | exact dec_t ⟨by omega, by simp_all, by omega⟩)) [] (rfl) rfl (trivial)
    · refine ExD.pass (i := 10) rfl (by kernel_rfl) ((List.Sublist.refl _)) rfl rfl rfl ?_
      refine ExD.pass (i := 11) rfl (by kernel_rfl) ((List.Sublist.refl _)) rfl rfl rfl ?_
      refine ExD.pass (i := 12) rfl (by kernel_rfl) ((List.Sublist.refl _)) rfl rfl rfl ?_
      refine ExD.pass (i := 13) rfl (by kernel_rfl) ((List.Sublist.refl _)) rfl rfl rfl ?_
      refine ExD.pass (i := 14) rfl (by kernel_rfl) ((List.Sublist.refl _)) rfl rfl rfl ?_
      refine ExD.pass (i := 15) rfl (by kernel_rfl) ((List.Sublist.refl _)) rfl rfl rfl ?_
      refine ExD.pass (i := 16) rfl (by kernel_rfl) ((List.Sublist.refl _)) rfl rfl rfl ?_
      refine ExD.pass (i := 17) rfl (by kernel_rfl) ((List.Sublist.refl _)) rfl rfl rfl ?_
      refine ExD.take (i := 18) rfl (by kernel_rfl) (pureVal_ok rfl) ((List.Sublist.refl _)) rfl rfl rfl ?_
      refine ExD.take (i := 19) rfl (by kernel_rfl) (pureVal_ok rfl) ((List.Sublist.refl _)) rfl rfl rfl ?_
      refine ExD.done (by kernel_rfl) ?_
      refine Ex.ret ?_
      refine RetQ.mk () rfl (.tmp rfl .nil) (tB (by unfold genT; first | exact dec_f (by rintro ⟨q1, q2, q3⟩; omega) | exact dec_f (by rintro ⟨q1, q2, q3⟩; simp_all; done) | exact dec_t ⟨by omega, by simp_all, by omega⟩)) [] (rfl) rfl (trivial)
  · replace hb3 := of_decide_eq_false hb3
    refine ExD.pass (i := 4) rfl (by kernel_rfl) ((List.Sublist.refl _)) rfl rfl rfl ?_
    refine ExD.pass (i := 5) rfl (by kernel_rfl) ((List.Sublist.refl _)) rfl rfl rfl ?_
    refine ExD.pass (i := 6) rfl (by kernel_rfl) ((List.Sublist.refl _)) rfl rfl rfl ?_
    refine ExD.pass (i := 7) rfl (by kernel_rfl) ((List.Sublist.refl _)) rfl rfl rfl ?_
    refine ExD.take (i := 8) rfl (by kernel_rfl) (pureVal_ok rfl) ((List.Sublist.refl _)) rfl rfl rfl ?_
    refine ExD.take (i := 9) rfl (by kernel_rfl) (pureVal_ok rfl) ((List.Sublist.refl _)) rfl rfl rfl ?_
    refine ExD.pass (i := 10) rfl (by kernel_rfl) ((List.Sublist.refl _)) rfl rfl rfl ?_
    refine ExD.pass (i := 11) rfl (by kernel_rfl) ((List.Sublist.refl _)) rfl rfl rfl ?_
    refine ExD.pass (i := 12) rfl (by kernel_rfl) ((List.Sublist.refl _)) rfl rfl rfl ?_
    refine ExD.pass (i := 13) rfl (by kernel_rfl) ((List.Sublist.refl _)) rfl rfl rfl ?_
    refine ExD.pass (i := 14) rfl (by kernel_rfl) ((List.Sublist.refl _)) rfl rfl rfl ?_
    refine ExD.pass (i := 15) rfl (by kernel_rfl) ((List.Sublist.refl _)) rfl rfl rfl ?_
    refine ExD.pass (i := 16) rfl (by kernel_rfl) ((List.Sublist.refl _)) rfl rfl rfl ?_
    refine ExD.pass (i := 17) rfl (by kernel_rfl) ((List.Sublist.refl _)) rfl rfl rfl ?_
    refine ExD.take (i := 18) rfl (by kernel_rfl) (pureVal_ok rfl) ((List.Sublist.refl _)) rfl rfl rfl ?_
    refine ExD.take (i := 19) rfl (by kernel_rfl) (pureVal_ok rfl) ((List.Sublist.refl _)) rfl rfl rfl ?_
    refine ExD.done (by kernel_rfl) ?_
    refine Ex.ret ?_
    refine RetQ.mk () rfl (.tmp rfl .nil) (tB (by unfold genT; first | exact dec_f (by rintro ⟨q1, q2, q3⟩; omega) | exact dec_f (by rintro ⟨q1, q2, q3⟩; simp_all; done) | exact dec_t ⟨by omega, by simp_all, by omega⟩)) [] (rfl) rfl (trivial)
theorem e_105 : Enters Try.prog 105 := Enters.of Try.func105 rfl
theorem c_l07Genuine (s : List Int) (hv : validStack s = true) (hu : Nums 255 s) (As : Option Addr) (cs : Nat) (hls : s.length ≤ maxLen) (t : VTic) (ht : OkTic t) (b q : Nat) : Ret Try.prog 105 [.slice As s.length cs, .pointer (some ⟨b, q, none⟩)] (fun w => Rd w As (s.flatMap (eI .u8)) ∧ Rd w (some ⟨b, q, none⟩) (encT t)) (fun x : Unit => .bool (genT s t)) (fun x => []) (fun x => True) := by
  refine Ret.of e_105 Try.func105 rfl Try.ntmps105 rfl rfl (fun w hpre => ?_)
  have hp := hpre.2.base
  have hpre := hpre.1
  have hs := hpre.base
  obtain ⟨hnn, ha, hck⟩ := ht
  have hm0 : maxLen = 9223372036854775807 := rfl
  refine Ex.regSeq (ExL.pures 1 rfl ?_)
  refine ExL.nil ?_
  refine Ex.drawSeqM rfl ?_
  refine ExD.take (i := 0) rfl (by kernel_rfl) (pureVal_ok rfl) ((List.Sublist.refl _)) rfl rfl rfl ?_
  refine ExD.take (i := 1) rfl (by kernel_rfl) (pureVal_ok rfl) ((List.Sublist.refl _)) rfl rfl rfl ?_
  refine ExD.take (i := 2) rfl (by kernel_rfl) (pureVal_ok rfl) ((List.Sublist.refl _)) rfl rfl rfl ?_
  refine ExD.take (i := 3) rfl (by kernel_rfl) (fr_load rfl rfl rfl rfl (CellO.at 0 (Reads.old hp) rfl)) ((List.Sublist.refl _)) rfl rfl rfl ?_
  refine ExD.op (i := 4) rfl (by kernel_rfl) rfl (op_ret rfl rfl rfl (c_l00In _ _ _) (fun _ _ => trivial) rfl rfl (fun x1 hx1 => ⟨(List.Sublist.refl _), ?_⟩))
  refine ExD.take (i := 5) rfl (by kernel_rfl) (pureVal_ok rfl) ((List.Sublist.refl _)) rfl rfl rfl ?_
  refine ExD.bool (d := 10) rfl (fun hb2 => ?_) (fun hb2 => ?_)
  · replace hb2 := of_decide_eq_true hb2
    refine ExD.take (i := 6) rfl (by kernel_rfl) (pureVal_ok rfl) ((List.Sublist.refl _)) rfl rfl rfl ?_
    refine ExD.take (i := 7) rfl (by kernel_rfl) (pureVal_ok rfl) ((List.Sublist.refl _)) rfl rfl rfl ?_
    refine ExD.take (i := 8) rfl (by kernel_rfl) (pureVal_ok rfl) ((List.Sublist.refl _)) rfl rfl rfl ?_
    refine ExD.take (i := 9) rfl (by kernel_rfl) (pureVal_ok rfl) ((List.Sublist.refl _)) rfl rfl rfl ?_
    refine ExD.take (i := 10) rfl (by kernel_rfl) (fr_loadN rfl rfl rfl rfl rfl (SegO.at 1 8 (Reads.old hp) rfl)) ((List.Sublist.refl _)) rfl rfl rfl ?_
    refine ExD.op (i := 11) rfl (by kernel_rfl) rfl (op_ret rfl rfl rfl (c_l01Digits s (by assumption) _ _ (by omega) t.shows (by assumption)) (Reads.get (Reads.old hs)) rfl rfl (fun x3 hx3 => ⟨(List.Sublist.refl _), ?_⟩))
    refine ExD.take (i := 12) rfl (by kernel_rfl) (pureVal_ok rfl) ((List.Sublist.refl _)) rfl rfl rfl ?_
    refine ExD.take (i := 13) rfl (by kernel_rfl) (pureVal_ok rfl) ((List.Sublist.refl _)) rfl rfl rfl ?_
    refine ExD.bool (d := 18) rfl (fun hb4 => ?_) (fun hb4 => ?_)
    · refine ExD.take (i := 14) rfl (by kernel_rfl) (pureVal_ok rfl) ((List.Sublist.refl _)) rfl rfl rfl ?_
      refine ExD.take (i := 15) rfl (by kernel_rfl) (pureVal_ok rfl) ((List.Sublist.refl _)) rfl rfl rfl ?_
      refine ExD.take (i := 16) rfl (by kernel_rfl) (pureVal_ok rfl) ((List.Sublist.refl _)) rfl rfl rfl ?_
      refine ExD.take (i := 17) rfl (by kernel_rfl) (fr_load rfl rfl rfl rfl (CellO.at 9 (Reads.old hp) rfl)) ((List.Sublist.refl _)) rfl rfl rfl ?_
      refine ExD.take (i := 18) rfl (by kernel_rfl) (pureVal_ok rfl) ((List.Sublist.refl _)) rfl rfl rfl ?_
      refine ExD.take (i := 19) rfl (by kernel_rfl) (pureVal_ok rfl) ((List.Sublist.refl _)) rfl rfl rfl ?_
      refine ExD.take (i := 20) rfl (by kernel_rfl) (pureVal_ok rfl) ((List.Sublist.refl _)) rfl rfl rfl ?_
      refine ExD.take (i := 21) rfl (by kernel_rfl) (fr_load rfl rfl rfl rfl (CellO.at 0 (Reads.old hp) rfl)) ((List.Sublist.refl _)) rfl rfl rfl ?_
      refine ExD.take (i := 22) rfl (by kernel_rfl) (pureVal_ok rfl) ((List.Sublist.refl _)) rfl rfl rfl ?_
      refine ExD.take (i := 23) rfl (by kernel_rfl) (pureVal_ok rfl) ((List.Sublist.refl _)) rfl rfl rfl ?_
      refine ExD.take (i := 24) rfl (by kernel_rfl) (pureVal_ok rfl) ((List.Sublist.refl _)) rfl rfl rfl ?_
      refine ExD.take (i := 25) rfl (by kernel_rfl) (fr_loadN rfl rfl rfl rfl rfl (SegO.at 1 8 (Reads.old hp) rfl)) ((List.Sublist.refl _)) rfl rfl rfl ?_
      refine ExD.op (i := 26) rfl (by kernel_rfl) rfl (op_ret rfl rfl rfl (c_l07Check _ (by omega) t.shows (by assumption)) (fun _ _ => trivial) rfl rfl (fun x5 hx5 => ⟨(List.Sublist.refl _), ?_⟩))
      refine ExD.cmp_eql (i := 27) rfl (by kernel_rfl) rfl rfl rfl ((List.Sublist.refl _)) rfl rfl rfl (fun h6 => ?_) (fun h6 => ?_)
      · refine ExD.take (i := 28) rfl (by kernel_rfl) (pureVal_ok rfl) ((List.Sublist.refl _)) rfl rfl rfl ?_
        refine ExD.take (i := 29) rfl (by kernel_rfl) (pureVal_ok rfl) ((List.Sublist.refl _)) rfl rfl rfl ?_
        refine ExD.done (by kernel_rfl) ?_
        refine Ex.ret ?_
        refine RetQ.mk () rfl (.tmp rfl .nil) (tB (by unfold genT; first | exact dec_f (by rintro ⟨q1, q2, q3⟩; omega) | exact dec_f (by rintro ⟨q1, q2, q3⟩; simp_all; done) | exact dec_t ⟨by omega, by simp_all, by omega⟩)) [] (rfl) rfl (trivial)
      · refine ExD.take (i := 28) rfl (by kernel_rfl) (pureVal_ok rfl) ((List.Sublist.refl _)) rfl rfl rfl ?_
        refine ExD.take (i := 29) rfl (by kernel_rfl) (pureVal_ok rfl) ((List.Sublist.refl _)) rfl rfl rfl ?_
        refine ExD.done (by kernel_rfl) ?_
        refine Ex.ret ?_
        refine RetQ.mk () rfl (.tmp rfl .nil) (tB (by unfold genT; first | exact dec_f (by rintro ⟨q1, q2, q3⟩; omega) | exact dec_f (by rintro ⟨q1, q2, q3⟩; simp_all; done) | exact dec_t ⟨by omega, by simp_all, by omega⟩)) [] (rfl) rfl (trivial)
    · refine ExD.pass (i := 14) rfl (by kernel_rfl) ((List.Sublist.refl _)) rfl rfl rfl ?_
      refine ExD.pass (i := 15) rfl (by kernel_rfl) ((List.Sublist.refl _)) rfl rfl rfl ?_
      refine ExD.pass (i := 16) rfl (by kernel_rfl) ((List.Sublist.refl _)) rfl rfl rfl ?_
      refine ExD.pass (i := 17) rfl (by kernel_rfl) ((List.Sublist.refl _)) rfl rfl rfl ?_
      refine ExD.pass (i := 18) rfl (by kernel_rfl) ((List.Sublist.refl _)) rfl rfl rfl ?_
      refine ExD.pass (i := 19) rfl (by kernel_rfl) ((List.Sublist.refl _)) rfl rfl rfl ?_
      refine ExD.pass (i := 20) rfl (by kernel_rfl) ((List.Sublist.refl _)) rfl rfl rfl ?_
      refine ExD.pass (i := 21) rfl (by kernel_rfl) ((List.Sublist.refl _)) rfl rfl rfl ?_
      refine ExD.pass (i := 22) rfl (by kernel_rfl) ((List.Sublist.refl _)) rfl rfl rfl ?_
      refine ExD.pass (i := 23) rfl (by kernel_rfl) ((List.Sublist.refl _)) rfl rfl rfl ?_
      refine ExD.pass (i := 24) rfl (by kernel_rfl) ((List.Sublist.refl _)) rfl rfl rfl ?_
      refine ExD.pass (i := 25) rfl (by kernel_rfl) ((List.Sublist.refl _)) rfl rfl rfl ?_
      refine ExD.pass (i := 26) rfl (by kernel_rfl) ((List.Sublist.refl _)) rfl rfl rfl ?_
      refine ExD.pass (i := 27) rfl (by kernel_rfl) ((List.Sublist.refl _)) rfl rfl rfl ?_
      refine ExD.take (i := 28) rfl (by kernel_rfl) (pureVal_ok rfl) ((List.Sublist.refl _)) rfl rfl rfl ?_
      refine ExD.take (i := 29) rfl (by kernel_rfl) (pureVal_ok rfl) ((List.Sublist.refl _)) rfl rfl rfl ?_
      refine ExD.done (by kernel_rfl) ?_
      refine Ex.ret ?_
      refine RetQ.mk () rfl (.tmp rfl .nil) (tB (by unfold genT; first | exact dec_f (by rintro ⟨q1, q2, q3⟩; omega) | exact dec_f (by rintro ⟨q1, q2, q3⟩; simp_all; done) | exact dec_t ⟨by omega, by simp_all, by omega⟩)) [] (rfl) rfl (trivial)
  · replace hb2 := of_decide_eq_false hb2
    refine ExD.pass (i := 6) rfl (by kernel_rfl) ((List.Sublist.refl _)) rfl rfl rfl ?_
    refine ExD.pass (i := 7) rfl (by kernel_rfl) ((List.Sublist.refl _)) rfl rfl rfl ?_
    refine ExD.pass (i := 8) rfl (by kernel_rfl) ((List.Sublist.refl _)) rfl rfl rfl ?_
    refine ExD.pass (i := 9) rfl (by kernel_rfl) ((List.Sublist.refl _)) rfl rfl rfl ?_
    refine ExD.pass (i := 10) rfl (by kernel_rfl) ((List.Sublist.refl _)) rfl rfl rfl ?_
    refine ExD.pass (i := 11) rfl (by kernel_rfl) ((List.Sublist.refl _)) rfl rfl rfl ?_
    refine ExD.take (i := 12) rfl (by kernel_rfl) (pureVal_ok rfl) ((List.Sublist.refl _)) rfl rfl rfl ?_
    refine ExD.take (i := 13) rfl (by kernel_rfl) (pureVal_ok rfl) ((List.Sublist.refl _)) rfl rfl rfl ?_
    refine ExD.pass (i := 14) rfl (by kernel_rfl) ((List.Sublist.refl _)) rfl rfl rfl ?_
    refine ExD.pass (i := 15) rfl (by kernel_rfl) ((List.Sublist.refl _)) rfl rfl rfl ?_
    refine ExD.pass (i := 16) rfl (by kernel_rfl) ((List.Sublist.refl _)) rfl rfl rfl ?_
    refine ExD.pass (i := 17) rfl (by kernel_rfl) ((List.Sublist.refl _)) rfl rfl rfl ?_
    refine ExD.pass (i := 18) rfl (by kernel_rfl) ((List.Sublist.refl _)) rfl rfl rfl ?_
    refine ExD.pass (i := 19) rfl (by kernel_rfl) ((List.Sublist.refl _)) rfl rfl rfl ?_
    refine ExD.pass (i := 20) rfl (by kernel_rfl) ((List.Sublist.refl _)) rfl rfl rfl ?_
    refine ExD.pass (i := 21) rfl (by kernel_rfl) ((List.Sublist.refl _)) rfl rfl rfl ?_
    refine ExD.pass (i := 22) rfl (by kernel_rfl) ((List.Sublist.refl _)) rfl rfl rfl ?_
    refine ExD.pass (i := 23) rfl (by kernel_rfl) ((List.Sublist.refl _)) rfl rfl rfl ?_
    refine ExD.pass (i := 24) rfl (by kernel_rfl) ((List.Sublist.refl _)) rfl rfl rfl ?_
    refine ExD.pass (i := 25) rfl (by kernel_rfl) ((List.Sublist.refl _)) rfl rfl rfl ?_
    refine ExD.pass (i := 26) rfl (by kernel_rfl) ((List.Sublist.refl _)) rfl rfl rfl ?_
    refine ExD.pass (i := 27) rfl (by kernel_rfl) ((List.Sublist.refl _)) rfl rfl rfl ?_
    refine ExD.take (i := 28) rfl (by kernel_rfl) (pureVal_ok rfl) ((List.Sublist.refl _)) rfl rfl rfl ?_
    refine ExD.take (i := 29) rfl (by kernel_rfl) (pureVal_ok rfl) ((List.Sublist.refl _)) rfl rfl rfl ?_
    refine ExD.done (by kernel_rfl) ?_
    refine Ex.ret ?_
    refine RetQ.mk () rfl (.tmp rfl .nil) (tB (by unfold genT; first | exact dec_f (by rintro ⟨q1, q2, q3⟩; omega) | exact dec_f (by rintro ⟨q1, q2, q3⟩; simp_all; done) | exact dec_t ⟨by omega, by simp_all, by omega⟩)) [] (rfl) rfl (trivial)
theorem e_34 : Enters Try.prog 34 := Enters.of Try.func34 rfl
theorem c_sIsGenuine (s : List Int) (hu : Nums 255 s) (As : Option Addr) (cs : Nat) (hls : s.length ≤ maxLen) (t : VTic) (ht : OkTic t) : Ret Try.prog 34 [.slice As s.length cs, .agg (encT t).toArray] (fun w => Rd w As (s.flatMap (eI .u8))) (fun x : Unit => .tuple #[.bool (validStack s && genT s t), .int .i64 (if validStack s = true then 0 else 1)]) (fun x => []) (fun x => True) := by
  refine Ret.of e_34 Try.func34 rfl Try.ntmps34 rfl rfl (fun w hpre => ?_)
  have hs := hpre.base
  have hm0 : maxLen = 9223372036854775807 := rfl
  refine Ex.regSeq (ExL.pures 0 rfl ?_)
  refine ExL.op rfl (op_box rfl rfl rfl rfl rfl (fun b1 => ?_))
  refine ExL.pures 2 rfl ?_
  refine ExL.nil ?_
  refine Ex.seq ?_
  refine Ex.regSeq (ExL.pures 1 rfl ?_)
  refine ExL.op rfl (op_ret rfl rfl rfl (c_l01Ok _ (by assumption) _ _ (by first | assumption | omega | (unfold maxLen; omega))) (Reads.get (Reads.old hs)) rfl rfl (fun x2 hx2 => ?_))
  refine ExL.pures 1 rfl ?_
  refine ExL.nil ?_
  refine Ex.cond rfl (fun hb3 => ?_) (fun hb3 => ?_)
  · replace hb3 := nb_t hb3
    refine Ex.regSeq (ExL.pures 2 rfl ?_)
    refine ExL.nil ?_
    refine Ex.ret ?_
    refine RetQ.mk () rfl (.tmp rfl (.tmp rfl .nil)) (t2 (vB (by simp_all)) (vI (by simp_all))) [] (rfl) rfl (trivial)
  · replace hb3 := nb_f hb3
    refine Ex.skip ?_
    refine Ex.regSeq (ExL.pures 1 rfl ?_)
    refine ExL.op rfl (op_ret rfl rfl rfl (c_l07Genuine s (by first | assumption | simp_all) (by assumption) _ _ (by omega) t (by first | assumption | exact all_at hok _ (by omega)) _ _) (fun w hw => ⟨Reads.get (Reads.old hs) w hw, Reads.get (Reads.blk (i := 0) rfl) w hw⟩) rfl rfl (fun x4 hx4 => ?_))
    refine ExL.pures 2 rfl ?_
    refine ExL.nil ?_
    refine Ex.ret ?_
    refine RetQ.mk () rfl (.tmp rfl (.tmp rfl .nil)) (t2 (vB (by simp_all)) (vI (by simp_all))) [] (rfl) rfl (trivial)
theorem e_36 : Enters Try.prog 36 := Enters.of Try.func36 rfl
theorem c_iIsGenuine (s : List Int) (hu : Nums 255 s) (As : Option Addr) (cs : Nat) (hls : s.length ≤ maxLen) (t : VTic) (ht : OkTic t) : Ret Try.prog 36 [.slice As s.length cs, .agg (encT t).toArray] (fun w => Rd w As (s.flatMap (eI .u8))) (fun x : Unit => .tuple #[.bool (validStack s && genT s t), .int .i64 (if validStack s = true then 0 else 1)]) (fun x => []) (fun x => True) := by
  refine Ret.of e_36 Try.func36 rfl Try.ntmps36 rfl rfl (fun w hpre => ?_)
  have hs := hpre.base
  have hm0 : maxLen = 9223372036854775807 := rfl
  refine Ex.regSeq (ExL.pures 0 rfl ?_)
  refine ExL.op rfl (op_box rfl rfl rfl rfl rfl (fun b1 => ?_))
  refine ExL.pures 2 rfl ?_
  refine ExL.nil ?_
  refine Ex.seq ?_
  refine Ex.regSeq (ExL.pures 1 rfl ?_)
  refine ExL.op rfl (op_ret rfl rfl rfl (c_ValidStack _ (by assumption) _ _ (by first | assumption | omega | (unfold maxLen; omega))) (Reads.get (Reads.old hs)) rfl rfl (fun x2 hx2 => ?_))
  refine ExL.pures 1 rfl ?_
  refine ExL.nil ?_
  refine Ex.cond rfl (fun hb3 => ?_) (fun hb3 => ?_)
  · replace hb3 := nb_t hb3
    refine Ex.regSeq (ExL.pures 2 rfl ?_)
    refine ExL.nil ?_
    refine Ex.ret ?_
    refine RetQ.mk () rfl (.tmp rfl (.tmp rfl .nil)) (t2 (vB (by simp_all)) (vI (by simp_all))) [] (rfl) rfl (trivial)
  · replace hb3 := nb_f hb3
    refine Ex.skip ?_
    refine Ex.regSeq (ExL.pures 1 rfl ?_)
    refine ExL.free (fr_loadN rfl rfl rfl rfl rfl (SegO.whole (i := 0) rfl)) rfl rfl rfl ?_
    refine ExL.op rfl (op_ret rfl rfl rfl (c_genuine s (by first | assumption | simp_all) (by assumption) _ _ (by omega) t (by first | assumption | exact all_at hok _ (by omega))) (Reads.get (Reads.old hs)) rfl rfl (fun x4 hx4 => ?_))
    refine ExL.pures 2 rfl ?_
    refine ExL.nil ?_
    refine Ex.ret ?_
    refine RetQ.mk () rfl (.tmp rfl (.tmp rfl .nil)) (t2 (vB (by simp_all)) (vI (by simp_all))) [] (rfl) rfl (trivial)
theorem e_119 : Enters Try.prog 119 := Enters.of Try.func119 rfl
theorem c_ticketsFault (s : List Int) (hu : Nums 255 s) (As : Option Addr) (cs : Nat) (hls : s.length ≤ maxLen) (l : List VTic) (Al : Option Addr) (cl : Nat) (hll : l.length ≤ maxLen) : Ret Try.prog 119 [.slice As s.length cs, .slice Al l.length cl] (fun w => Rd w As (s.flatMap (eI .u8))) (fun x : Unit => .int .i64 (tfault s l.length)) (fun x => []) (fun x => True) := by
  refine Ret.of e_119 Try.func119 rfl Try.ntmps119 rfl rfl (fun w hpre => ?_)
  have hs := hpre.base
  have hm0 : maxLen = 9223372036854775807 := rfl
  refine Ex.regSeq (ExL.pures 1 rfl ?_)
  refine ExL.nil ?_
  refine Ex.seq ?_
  refine Ex.block ?_
  refine Ex.regSeq (ExL.pures 1 rfl ?_)
  refine ExL.op rfl (op_ret rfl rfl rfl (c_ValidStack _ (by assumption) _ _ (by first | assumption | omega | (unfold maxLen; omega))) (Reads.get (Reads.old hs)) rfl rfl (fun x1 hx1 => ?_))
  refine ExL.pures 2 rfl ?_
  refine ExL.nil ?_
  refine Ex.cond rfl (fun hb2 => ?_) (fun hb2 => ?_)
  · replace hb2 := nb_t hb2
    refine Ex.regSeq (ExL.pures 1 rfl ?_)
    refine ExL.nil ?_
    refine Ex.ret ?_
    refine RetQ.mk () rfl (.tmp rfl .nil) (tI (by first | exact tf_bad (by assumption) | exact tf_long (by assumption) (by omega) | exact tf_ok (by assumption) (by omega))) [] (rfl) rfl (trivial)
  · replace hb2 := nb_f hb2
    refine Ex.regSeq (ExL.pures 2 rfl ?_)
    refine ExL.gtr rfl rfl rfl rfl rfl rfl (fun h3 => ?_) (fun h3 => ?_)
    · refine ExL.pures 1 rfl ?_
      refine ExL.nil ?_
      refine Ex.cond_t rfl ?_
      refine Ex.regSeq (ExL.pures 1 rfl ?_)
      refine ExL.nil ?_
      refine Ex.ret ?_
      refine RetQ.mk () rfl (.tmp rfl .nil) (tI (by first | exact tf_bad (by assumption) | exact tf_long (by assumption) (by omega) | exact tf_ok (by assumption) (by omega))) [] (rfl) rfl (trivial)
    · refine ExL.pures 1 rfl ?_
      refine ExL.nil ?_
      refine Ex.cond_f rfl ?_
      refine Ex.skip ?_
      refine Ex.regSeq (ExL.pures 1 rfl ?_)
      refine ExL.nil ?_
      refine Ex.ret ?_
      refine RetQ.mk () rfl (.tmp rfl .nil) (tI (by first | exact tf_bad (by assumption) | exact tf_long (by assumption) (by omega) | exact tf_ok (by assumption) (by omega))) [] (rfl) rfl (trivial)
theorem e_118 : Enters Try.prog 118 := Enters.of Try.func118 rfl
theorem c_l07Tickets (s : List Int) (hu : Nums 255 s) (As : Option Addr) (cs : Nat) (hls : s.length ≤ maxLen) (l : List VTic) (Al : Option Addr) (cl : Nat) (hll : l.length ≤ maxLen) : Ret Try.prog 118 [.slice As s.length cs, .slice Al l.length cl] (fun w => Rd w As (s.flatMap (eI .u8))) (fun x : Unit => .int .i64 (tfault s l.length)) (fun x => []) (fun x => True) := by
  refine Ret.of e_118 Try.func118 rfl Try.ntmps118 rfl rfl (fun w hpre => ?_)
  have hs := hpre.base
  have hm0 : maxLen = 9223372036854775807 := rfl
  refine Ex.regSeq (ExL.pures 1 rfl ?_)
  refine ExL.nil ?_
  refine Ex.seq ?_
  refine Ex.regSeq (ExL.pures 1 rfl ?_)
  refine ExL.op rfl (op_ret rfl rfl rfl (c_l01Ok _ (by assumption) _ _ (by first | assumption | omega | (unfold maxLen; omega))) (Reads.get (Reads.old hs)) rfl rfl (fun x1 hx1 => ?_))
  refine ExL.pures 1 rfl ?_
  refine ExL.nil ?_
  refine Ex.cond rfl (fun hb2 => ?_) (fun hb2 => ?_)
  · replace hb2 := nb_t hb2
    refine Ex.regSeq (ExL.pures 1 rfl ?_)
    refine ExL.nil ?_
    refine Ex.ret ?_
    refine RetQ.mk () rfl (.tmp rfl .nil) (tI (by first | exact tf_bad (by assumption) | exact tf_long (by assumption) (by omega) | exact tf_ok (by assumption) (by omega))) [] (rfl) rfl (trivial)
  · replace hb2 := nb_f hb2
    refine Ex.skip ?_
    refine Ex.seq ?_
    refine Ex.regSeq (ExL.pures 2 rfl ?_)
    refine ExL.gtr rfl rfl rfl rfl rfl rfl (fun h3 => ?_) (fun h3 => ?_)
    · refine ExL.nil ?_
      refine Ex.cond_t rfl ?_
      refine Ex.regSeq (ExL.pures 1 rfl ?_)
      refine ExL.nil ?_
      refine Ex.ret ?_
      refine RetQ.mk () rfl (.tmp rfl .nil) (tI (by first | exact tf_bad (by assumption) | exact tf_long (by assumption) (by omega) | exact tf_ok (by assumption) (by omega))) [] (rfl) rfl (trivial)
    · refine ExL.nil ?_
      refine Ex.cond_f rfl ?_
      refine Ex.skip ?_
      refine Ex.regSeq (ExL.pures 1 rfl ?_)
      refine ExL.nil ?_
      refine Ex.ret ?_
      refine RetQ.mk () rfl (.tmp rfl .nil) (tI (by first | exact tf_bad (by assumption) | exact tf_long (by assumption) (by omega) | exact tf_ok (by assumption) (by omega))) [] (rfl) rfl (trivial)
theorem e_54 : Enters Try.prog 54 := Enters.of Try.func54 rfl
theorem c_iFirstForged (s : List Int) (hu : Nums 255 s) (As : Option Addr) (cs : Nat) (hls : s.length ≤ maxLen) (l : List VTic) (hok : ∀ x ∈ l, OkTic x) (bl : Nat) (cl : Nat) (hll : l.length ≤ maxLen) : Ret Try.prog 54 [.slice As s.length cs, .slice (some ⟨bl, 0, none⟩) l.length cl] (fun w => Rd w As (s.flatMap (eI .u8)) ∧ Rd w (some ⟨bl, 0, none⟩) (l.flatMap encT)) (fun x : Unit => .tuple #[.int .i64 (firstForged s l).1, .int .i64 (firstForged s l).2]) (fun x => []) (fun x => True) := by
  refine Ret.of e_54 Try.func54 rfl Try.ntmps54 rfl rfl (fun w hpre => ?_)
  have hs := hpre.1.base
  have hl := hpre.2.base
  have hm0 : maxLen = 9223372036854775807 := rfl
  refine Ex.regSeq (ExL.pures 2 rfl ?_)
  refine ExL.nil ?_
  refine Ex.seq ?_
  refine Ex.regSeq (ExL.pures 2 rfl ?_)
  refine ExL.op rfl (op_ret rfl rfl rfl (c_ticketsFault s (by assumption) _ _ (by omega) l _ _ (by omega)) (Reads.get (Reads.old hs)) rfl rfl (fun x1 hx1 => ?_))
  refine ExL.pures 1 rfl ?_
  refine ExL.nil ?_
  refine Ex.regSeq (ExL.pures 1 rfl ?_)
  refine ExL.neq rfl rfl rfl rfl rfl rfl (fun h2 => ?_) (fun h2 => ?_)
  · refine ExL.nil ?_
    refine Ex.cond_t rfl ?_
    refine Ex.regSeq (ExL.pures 3 rfl ?_)
    refine ExL.nil ?_
    refine Ex.ret ?_
    refine RetQ.mk () rfl (.tmp rfl (.tmp rfl .nil)) (t2 (vI (by first | (unfold firstForged; rw [if_pos (by assumption)]; done) | (unfold firstForged; rw [if_neg (by assumption)]; first | (rw [firstB_hit (k := k) (by omega) hall (by first | exact badT_1 (by assumption) | exact badT_2 (by omega) (by omega))]; rfl) | (rw [firstB_none (k := k) (by omega) hall]; rfl)))) (vI (by first | (unfold firstForged; rw [if_pos (by assumption)]; done) | (unfold firstForged; rw [if_neg (by assumption)]; first | (rw [firstB_hit (k := k) (by omega) hall (by first | exact badT_1 (by assumption) | exact badT_2 (by omega) (by omega))]; rfl) | (rw [firstB_none (k := k) (by omega) hall]; rfl))))) [] (rfl) rfl (trivial)
  · refine ExL.nil ?_
    refine Ex.cond_f rfl ?_
    refine Ex.skip ?_
    refine Ex.seq ?_
    refine Ex.regSeq (ExL.pures 3 rfl ?_)
    refine ExL.nil ?_
    refine Ex.block ?_
    refine Ex.loopK (X := Nat) (fun k => [(17, .int .i64 k)]) (fun k => []) (fun k => k ≤ l.length ∧ ∀ i, i < k → badT s l i = false) (fun k => l.length - k) 0 [(0, _), (1, _), (15, _), (16, _)] [] 0 [] ⟨rfl, trivial⟩ ⟨rfl, rfl, rfl, rfl, trivial⟩ (rfl) rfl ⟨Nat.zero_le _, fun i hi => by omega⟩ (fun k hI => ?_)
    have hI : k ≤ l.length ∧ ∀ i, i < k → badT s l i = false := hI
    obtain ⟨hk, hall⟩ := hI
    obtain ⟨hv, hl60⟩ := tf_zero (by assumption)
    refine Ex.regSeq (ExL.pures 0 rfl ?_)
    refine ExL.lss rfl rfl rfl rfl rfl rfl (fun h3 => ?_) (fun h3 => ?_)
    · refine ExL.nil ?_
      refine Ex.seq ?_
      refine Ex.cond_t rfl ?_
      refine Ex.skip ?_
      refine Ex.seq ?_
      refine Ex.block ?_
      refine Ex.regSeq (ExL.pures 1 rfl ?_)
      refine ExL.free (fr_indexAddrF (Reads.old hl) encT_len rfl rfl rfl rfl rfl rfl (by omega)) rfl rfl rfl ?_
      refine ExL.free (fr_loadN rfl rfl rfl rfl rfl (by first | exact segN (Reads.old hl) encT_len rfl zT (by omega) | exact segF (Reads.old hl) encT_len rfl zT (by omega))) rfl rfl rfl ?_
      refine ExL.op rfl (op_alloc rfl rfl rfl rfl rfl (fun b4 => ?_))
      refine ExL.pures 1 rfl ?_
      refine ExL.op rfl (op_storeC (i := 0) rfl rfl rfl rfl rfl rfl rfl rfl rfl rfl ?_)
      refine ExL.nil ?_
      refine Ex.drawSeqM rfl ?_
      refine ExD.take (i := 0) rfl (by kernel_rfl) (pureVal_ok rfl) ((List.Sublist.refl _)) rfl rfl rfl ?_
      refine ExD.take (i := 1) rfl (by kernel_rfl) (fr_loadN rfl rfl rfl rfl rfl (SegO.whole (i := 0) rfl)) ((List.Sublist.refl _)) rfl rfl rfl ?_
      refine ExD.op (i := 2) rfl (by kernel_rfl) rfl (op_ret rfl rfl rfl (c_genuine s (by first | assumption | simp_all) (by assumption) _ _ (by omega) (l.getD k zT) (by first | assumption | exact all_at hok _ (by omega))) (Reads.get (Reads.old hs)) rfl rfl (fun x5 hx5 => ⟨(List.Sublist.refl _), ?_⟩))
      refine ExD.take (i := 3) rfl (by kernel_rfl) (pureVal_ok rfl) ((List.Sublist.refl _)) rfl rfl rfl ?_
      refine ExD.take (i := 4) rfl (by kernel_rfl) (pureVal_ok rfl) ((List.Sublist.refl _)) rfl rfl rfl ?_
      refine ExD.bool (d := 26) rfl (fun hb6 => ?_) (fun hb6 => ?_)
      · replace hb6 := nb_t hb6
        refine ExD.pass (i := 5) rfl (by kernel_rfl) ((List.Sublist.refl _)) rfl rfl rfl ?_
        refine ExD.pass (i := 6) rfl (by kernel_rfl) ((List.Sublist.refl _)) rfl rfl rfl ?_
        refine ExD.pass (i := 7) rfl (by kernel_rfl) ((List.Sublist.refl _)) rfl rfl rfl ?_
        refine ExD.pass (i := 8) rfl (by kernel_rfl) ((List.Sublist.refl _)) rfl rfl rfl ?_
        refine ExD.pass (i := 9) rfl (by kernel_rfl) ((List.Sublist.refl _)) rfl rfl rfl ?_
        refine ExD.pass (i := 10) rfl (by kernel_rfl) ((List.Sublist.refl _)) rfl rfl rfl ?_
        refine ExD.pass (i := 11) rfl (by kernel_rfl) ((List.Sublist.refl _)) rfl rfl rfl ?_
        refine ExD.pass (i := 12) rfl (by kernel_rfl) ((List.Sublist.refl _)) rfl rfl rfl ?_
        refine ExD.pass (i := 13) rfl (by kernel_rfl) ((List.Sublist.refl _)) rfl rfl rfl ?_
        refine ExD.pass (i := 14) rfl (by kernel_rfl) ((List.Sublist.refl _)) rfl rfl rfl ?_
        refine ExD.pass (i := 15) rfl (by kernel_rfl) ((List.Sublist.refl _)) rfl rfl rfl ?_
        refine ExD.pass (i := 16) rfl (by kernel_rfl) ((List.Sublist.refl _)) rfl rfl rfl ?_
        refine ExD.pass (i := 17) rfl (by kernel_rfl) ((List.Sublist.refl _)) rfl rfl rfl ?_
        refine ExD.take (i := 18) rfl (by kernel_rfl) (pureVal_ok rfl) ((List.Sublist.refl _)) rfl rfl rfl ?_
        refine ExD.done (by kernel_rfl) ?_
        refine Ex.cond_t rfl ?_
        refine Ex.regSeq (ExL.pures 3 rfl ?_)
        refine ExL.nil ?_
        refine Ex.ret ?_
        refine RetQ.mk () rfl (.tmp rfl (.tmp rfl .nil)) (t2 (vI (by first | (unfold firstForged; rw [if_pos (by assumption)]; done) | (unfold firstForged; rw [if_neg (by assumption)]; first | (rw [firstB_hit (k := k) (by omega) hall (by first | exact badT_1 (by assumption) | exact badT_2 (by omega) (by omega))]; rfl) | (rw [firstB_none (k := k) (by omega) hall]; rfl)))) (vI (by first | (unfold firstForged; rw [if_pos (by assumption)]; done) | (unfold firstForged; rw [if_neg (by assumption)]; first | (rw [firstB_hit (k := k) (by omega) hall (by first | exact badT_1 (by assumption) | exact badT_2 (by omega) (by omega))]; rfl) | (rw [firstB_none (k := k) (by omega) hall]; rfl))))) [] (rfl) rfl (trivial)
      · replace hb6 := nb_f hb6
        refine ExD.take (i := 5) rfl (by kernel_rfl) (pureVal_ok rfl) ((List.Sublist.refl _)) rfl rfl rfl ?_
        refine ExD.cmp_gtr (i := 6) rfl (by kernel_rfl) rfl rfl rfl ((List.Sublist.refl _)) rfl rfl rfl (fun h7 => ?_) (fun h7 => ?_)
        · refine ExD.take (i := 7) rfl (by kernel_rfl) (pureVal_ok rfl) ((List.Sublist.refl _)) rfl rfl rfl ?_
          refine ExD.take (i := 8) rfl (by kernel_rfl) (pureVal_ok rfl) ((List.Sublist.refl _)) rfl rfl rfl ?_
          refine ExD.take (i := 9) rfl (by kernel_rfl) (pureVal_ok rfl) ((List.Sublist.refl _)) rfl rfl rfl ?_
          refine ExD.take (i := 10) rfl (by kernel_rfl) (by first | exact fr_sub64 rfl rfl rfl (by omega) | exact fr_sub rfl rfl rfl) ((List.Sublist.refl _)) rfl rfl rfl ?_
          refine ExD.take (i := 11) rfl (by kernel_rfl) (fr_indexAddrF (Reads.old hl) encT_len rfl rfl rfl rfl rfl rfl (by omega)) ((List.Sublist.refl _)) rfl rfl rfl ?_
          refine ExD.take (i := 12) rfl (by kernel_rfl) (fr_fieldAddrF (i := ((↑k - 1) : Int).toNat) (Reads.old hl) encT_len rfl rfl rfl (by omega) rfl rfl rfl rfl) ((List.Sublist.refl _)) rfl rfl rfl ?_
          refine ExD.take (i := 13) rfl (by kernel_rfl) (fr_load rfl rfl rfl rfl (cellJ ((k - 1)) (Reads.old hl) encT_len zT 0 rfl (by omega) (by omega) rfl)) ((List.Sublist.refl _)) rfl rfl rfl ?_
          refine ExD.take (i := 14) rfl (by kernel_rfl) (pureVal_ok rfl) ((List.Sublist.refl _)) rfl rfl rfl ?_
          refine ExD.take (i := 15) rfl (by kernel_rfl) (fr_load rfl rfl rfl rfl (CellO.blk (i := 0) rfl rfl)) ((List.Sublist.refl _)) rfl rfl rfl ?_
          refine ExD.cmp_geq (i := 16) rfl (by kernel_rfl) rfl rfl rfl ((List.Sublist.refl _)) rfl rfl rfl (fun h8 => ?_) (fun h8 => ?_)
          · refine ExD.take (i := 17) rfl (by kernel_rfl) (pureVal_ok rfl) ((List.Sublist.refl _)) rfl rfl rfl ?_
            refine ExD.take (i := 18) rfl (by kernel_rfl) (pureVal_ok rfl) ((List.Sublist.refl _)) rfl rfl rfl ?_
            refine ExD.done (by kernel_rfl) ?_
            refine Ex.cond_t rfl ?_
            refine Ex.regSeq (ExL.pures 3 rfl ?_)
            refine ExL.nil ?_
            refine Ex.ret ?_
            refine RetQ.mk () rfl (.tmp rfl (.tmp rfl .nil)) (t2 (vI (by first | (unfold firstForged; rw [if_pos (by assumption)]; done) | (unfold firstForged; rw [if_neg (by assumption)]; first | (rw [firstB_hit (k := k) (by omega) hall (by first | exact badT_1 (by assumption) | exact badT_2 (by omega) (by omega))]; rfl) | (rw [firstB_none (k := k) (by omega) hall]; rfl)))) (vI (by first | (unfold firstForged; rw [if_pos (by assumption)]; done) | (unfold firstForged; rw [if_neg (by assumption)]; first | (rw [firstB_hit (k := k) (by omega) hall (by first | exact badT_1 (by assumption) | exact badT_2 (by omega) (by omega))]; rfl) | (rw [firstB_none (k := k) (by omega) hall]; rfl))))) [] (rfl) rfl (trivial)
          · refine ExD.take (i := 17) rfl (by kernel_rfl) (pureVal_ok rfl) ((List.Sublist.refl _)) rfl rfl rfl ?_
            refine ExD.take (i := 18) rfl (by kernel_rfl) (pureVal_ok rfl) ((List.Sublist.refl _)) rfl rfl rfl ?_
            refine ExD.done (by kernel_rfl) ?_
            refine Ex.cond_f rfl ?_
            refine Ex.skip ?_
            refine Ex.region (ExL.pures 0 rfl ?_)
            refine ExL.free (by first | exact fr_add64 rfl rfl rfl (by omega) | exact fr_add rfl rfl rfl) rfl rfl rfl ?_
            refine ExL.pures 1 rfl ?_
            refine ExL.nil ?_
            refine Hand.mk (k + 1) 1 [] ⟨rfl, trivial⟩ ⟨rfl, rfl, rfl, rfl, trivial⟩ (rfl) rfl (⟨by omega, all_snoc hall (badT_f (by assumption) (by omega))⟩) (by omega)
        · refine ExD.take (i := 7) rfl (by kernel_rfl) (pureVal_ok rfl) ((List.Sublist.refl _)) rfl rfl rfl ?_
          refine ExD.pass (i := 8) rfl (by kernel_rfl) ((List.Sublist.refl _)) rfl rfl rfl ?_
          refine ExD.pass (i := 9) rfl (by kernel_rfl) ((List.Sublist.refl _)) rfl rfl rfl ?_
          refine ExD.pass (i := 10) rfl (by kernel_rfl) ((List.Sublist.refl _)) rfl rfl rfl ?_
          refine ExD.pass (i := 11) rfl (by kernel_rfl) ((List.Sublist.refl _)) rfl rfl rfl ?_
          refine ExD.pass (i := 12) rfl (by kernel_rfl) ((List.Sublist.refl _)) rfl rfl rfl ?_
          refine ExD.pass (i := 13) rfl (by kernel_rfl) ((List.Sublist.refl _)) rfl rfl rfl ?_
          refine ExD.pass (i := 14) rfl (by kernel_rfl) ((List.Sublist.refl _)) rfl rfl rfl ?_
          refine ExD.pass (i := 15) rfl (by kernel_rfl) ((List.Sublist.refl _)) rfl rfl rfl ?_
          refine ExD.pass (i := 16) rfl (by kernel_rfl) ((List.Sublist.refl _)) rfl rfl rfl ?_
          refine ExD.take (i := 17) rfl (by kernel_rfl) (pureVal_ok rfl) ((List.Sublist.refl _)) rfl rfl rfl ?_
          refine ExD.take (i := 18) rfl (by kernel_rfl) (pureVal_ok rfl) ((List.Sublist.refl _)) rfl rfl rfl ?_
          refine ExD.done (by kernel_rfl) ?_
          refine Ex.cond_f rfl ?_
          refine Ex.skip ?_
          refine Ex.region (ExL.pures 0 rfl ?_)
          refine ExL.free (by first | exact fr_add64 rfl rfl rfl (by omega) | exact fr_add rfl rfl rfl) rfl rfl rfl ?_
          refine ExL.pures 1 rfl ?_
          refine ExL.nil ?_
          refine Hand.mk (k + 1) 1 [] ⟨rfl, trivial⟩ ⟨rfl, rfl, rfl, rfl, trivial⟩ (rfl) rfl (⟨by omega, all_snoc hall (badT_f (by assumption) (by omega))⟩) (by omega)
    · refine ExL.nil ?_
      refine Ex.seq ?_
      refine Ex.cond_f rfl ?_
      refine Ex.exit ?_
      refine Ex.regSeq (ExL.pures 2 rfl ?_)
      refine ExL.nil ?_
      refine Ex.ret ?_
      refine RetQ.mk () rfl (.tmp rfl (.tmp rfl .nil)) (t2 (vI (by first | (unfold firstForged; rw [if_pos (by assumption)]; done) | (unfold firstForged; rw [if_neg (by assumption)]; first | (rw [firstB_hit (k := k) (by omega) hall (by first | exact badT_1 (by assumption) | exact badT_2 (by omega) (by omega))]; rfl) | (rw [firstB_none (k := k) (by omega) hall]; rfl)))) (vI (by first | (unfold firstForged; rw [if_pos (by assumption)]; done) | (unfold firstForged; rw [if_neg (by assumption)]; first | (rw [firstB_hit (k := k) (by omega) hall (by first | exact badT_1 (by assumption) | exact badT_2 (by omega) (by omega))]; rfl) | (rw [firstB_none (k := k) (by omega) hall]; rfl))))) [] (rfl) rfl (trivial)
theorem e_52 : Enters Try.prog 52 := Enters.of Try.func52 rfl
theorem c_sFirstForged (s : List Int) (hu : Nums 255 s) (As : Option Addr) (cs : Nat) (hls : s.length ≤ maxLen) (l : List VTic) (hok : ∀ x ∈ l, OkTic x) (bl : Nat) (cl : Nat) (hll : l.length ≤ maxLen) : Ret Try.prog 52 [.slice As s.length cs, .slice (some ⟨bl, 0, none⟩) l.length cl] (fun w => Rd w As (s.flatMap (eI .u8)) ∧ Rd w (some ⟨bl, 0, none⟩) (l.flatMap encT)) (fun x : Unit => .tuple #[.int .i64 (firstForged s l).1, .int .i64 (firstForged s l).2]) (fun x => []) (fun x => True) := by
  refine Ret.of e_52 Try.func52 rfl Try.ntmps52 rfl rfl (fun w hpre => ?_)
  have hs := hpre.1.base
  have hl := hpre.2.base
  have hm0 : maxLen = 9223372036854775807 := rfl
  refine Ex.regSeq (ExL.pures 2 rfl ?_)
  refine ExL.nil ?_
  refine Ex.seq ?_
  refine Ex.regSeq (ExL.pures 2 rfl ?_)
  refine ExL.op rfl (op_ret rfl rfl rfl (c_l07Tickets s (by assumption) _ _ (by omega) l _ _ (by omega)) (Reads.get (Reads.old hs)) rfl rfl (fun x1 hx1 => ?_))
  refine ExL.pures 1 rfl ?_
  refine ExL.nil ?_
  refine Ex.regSeq (ExL.pures 1 rfl ?_)
  refine ExL.neq rfl rfl rfl rfl rfl rfl (fun h2 => ?_) (fun h2 => ?_)
  · refine ExL.nil ?_
    refine Ex.cond_t rfl ?_
    refine Ex.regSeq (ExL.pures 3 rfl ?_)
    refine ExL.nil ?_
    refine Ex.ret ?_
    refine RetQ.mk () rfl (.tmp rfl (.tmp rfl .nil)) (t2 (vI (by first | (unfold firstForged; rw [if_pos (by assumption)]; done) | (unfold firstForged; rw [if_neg (by assumption)]; first | (rw [firstB_hit (k := k) (by omega) hall (by first | exact badT_1 (by assumption) | exact badT_2 (by omega) (by omega))]; rfl) | (rw [firstB_none (k := k) (by omega) hall]; rfl)))) (vI (by first | (unfold firstForged; rw [if_pos (by assumption)]; done) | (unfold firstForged; rw [if_neg (by assumption)]; first | (rw [firstB_hit (k := k) (by omega) hall (by first | exact badT_1 (by assumption) | exact badT_2 (by omega) (by omega))]; rfl) | (rw [firstB_none (k := k) (by omega) hall]; rfl))))) [] (rfl) rfl (trivial)
  · refine ExL.nil ?_
    refine Ex.cond_f rfl ?_
    refine Ex.skip ?_
    refine Ex.seq ?_
    refine Ex.regSeq (ExL.pures 1 rfl ?_)
    refine ExL.nil ?_
    refine Ex.block ?_
    refine Ex.loopK (X := Nat) (fun k => [(7, .int .i64 k)]) (fun k => []) (fun k => k ≤ l.length ∧ ∀ i, i < k → badT s l i = false) (fun k => l.length - k) 0 [(0, _), (1, _)] [] 0 [] ⟨rfl, trivial⟩ ⟨rfl, rfl, trivial⟩ (rfl) rfl ⟨Nat.zero_le _, fun i hi => by omega⟩ (fun k hI => ?_)
    have hI : k ≤ l.length ∧ ∀ i, i < k → badT s l i = false := hI
    obtain ⟨hk, hall⟩ := hI
    obtain ⟨hv, hl60⟩ := tf_zero (by assumption)
    refine Ex.seq ?_
    refine Ex.regSeq (ExL.pures 3 rfl ?_)
    refine ExL.lss rfl rfl rfl rfl rfl rfl (fun h3 => ?_) (fun h3 => ?_)
    · refine ExL.nil ?_
      refine Ex.cond_t rfl ?_
      refine Ex.skip ?_
      refine Ex.seq ?_
      refine Ex.block ?_
      refine Ex.drawSeqM rfl ?_
      refine ExD.take (i := 0) rfl (by kernel_rfl) (pureVal_ok rfl) ((List.Sublist.refl _)) rfl rfl rfl ?_
      refine ExD.take (i := 1) rfl (by kernel_rfl) (pureVal_ok rfl) ((List.Sublist.refl _)) rfl rfl rfl ?_
      refine ExD.take (i := 2) rfl (by kernel_rfl) (pureVal_ok rfl) ((List.Sublist.refl _)) rfl rfl rfl ?_
      refine ExD.take (i := 3) rfl (by kernel_rfl) (fr_indexAddrP (Reads.old hl) encT_len rfl rfl rfl rfl rfl rfl (by omega)) ((List.Sublist.refl _)) rfl rfl rfl ?_
      refine ExD.op (i := 4) rfl (by kernel_rfl) rfl (op_ret rfl rfl rfl (c_l07Genuine s (by first | assumption | simp_all) (by assumption) _ _ (by omega) (l.getD k zT) (by first | assumption | exact all_at hok _ (by omega)) bl (0 + ((k : Int)).toNat * 10)) (fun w hw => ⟨Reads.get (Reads.old hs) w hw, Reads.get (Reads.elemP (Reads.old hl) encT_len zT (by omega)) w hw⟩) rfl rfl (fun x4 hx4 => ⟨(List.Sublist.refl _), ?_⟩))
      refine ExD.take (i := 5) rfl (by kernel_rfl) (pureVal_ok rfl) ((List.Sublist.refl _)) rfl rfl rfl ?_
      refine ExD.take (i := 6) rfl (by kernel_rfl) (pureVal_ok rfl) ((List.Sublist.refl _)) rfl rfl rfl ?_
      refine ExD.bool (d := 26) rfl (fun hb5 => ?_) (fun hb5 => ?_)
      · replace hb5 := nb_t hb5
        refine ExD.pass (i := 7) rfl (by kernel_rfl) ((List.Sublist.refl _)) rfl rfl rfl ?_
        refine ExD.pass (i := 8) rfl (by kernel_rfl) ((List.Sublist.refl _)) rfl rfl rfl ?_
        refine ExD.pass (i := 9) rfl (by kernel_rfl) ((List.Sublist.refl _)) rfl rfl rfl ?_
        refine ExD.pass (i := 10) rfl (by kernel_rfl) ((List.Sublist.refl _)) rfl rfl rfl ?_
        refine ExD.pass (i := 11) rfl (by kernel_rfl) ((List.Sublist.refl _)) rfl rfl rfl ?_
        refine ExD.pass (i := 12) rfl (by kernel_rfl) ((List.Sublist.refl _)) rfl rfl rfl ?_
        refine ExD.pass (i := 13) rfl (by kernel_rfl) ((List.Sublist.refl _)) rfl rfl rfl ?_
        refine ExD.pass (i := 14) rfl (by kernel_rfl) ((List.Sublist.refl _)) rfl rfl rfl ?_
        refine ExD.pass (i := 15) rfl (by kernel_rfl) ((List.Sublist.refl _)) rfl rfl rfl ?_
        refine ExD.pass (i := 16) rfl (by kernel_rfl) ((List.Sublist.refl _)) rfl rfl rfl ?_
        refine ExD.pass (i := 17) rfl (by kernel_rfl) ((List.Sublist.refl _)) rfl rfl rfl ?_
        refine ExD.pass (i := 18) rfl (by kernel_rfl) ((List.Sublist.refl _)) rfl rfl rfl ?_
        refine ExD.pass (i := 19) rfl (by kernel_rfl) ((List.Sublist.refl _)) rfl rfl rfl ?_
        refine ExD.pass (i := 20) rfl (by kernel_rfl) ((List.Sublist.refl _)) rfl rfl rfl ?_
        refine ExD.pass (i := 21) rfl (by kernel_rfl) ((List.Sublist.refl _)) rfl rfl rfl ?_
        refine ExD.pass (i := 22) rfl (by kernel_rfl) ((List.Sublist.refl _)) rfl rfl rfl ?_
        refine ExD.take (i := 23) rfl (by kernel_rfl) (pureVal_ok rfl) ((List.Sublist.refl _)) rfl rfl rfl ?_
        refine ExD.done (by kernel_rfl) ?_
        refine Ex.cond_t rfl ?_
        refine Ex.regSeq (ExL.pures 3 rfl ?_)
        refine ExL.nil ?_
        refine Ex.ret ?_
        refine RetQ.mk () rfl (.tmp rfl (.tmp rfl .nil)) (t2 (vI (by first | (unfold firstForged; rw [if_pos (by assumption)]; done) | (unfold firstForged; rw [if_neg (by assumption)]; first | (rw [firstB_hit (k := k) (by omega) hall (by first | exact badT_1 (by assumption) | exact badT_2 (by omega) (by omega))]; rfl) | (rw [firstB_none (k := k) (by omega) hall]; rfl)))) (vI (by first | (unfold firstForged; rw [if_pos (by assumption)]; done) | (unfold firstForged; rw [if_neg (by assumption)]; first | (rw [firstB_hit (k := k) (by omega) hall (by first | exact badT_1 (by assumption) | exact badT_2 (by omega) (by omega))]; rfl) | (rw [firstB_none (k := k) (by omega) hall]; rfl))))) [] (rfl) rfl (trivial)
      · replace hb5 := nb_f hb5
        refine ExD.take (i := 7) rfl (by kernel_rfl) (pureVal_ok rfl) ((List.Sublist.refl _)) rfl rfl rfl ?_
        refine ExD.cmp_gtr (i := 8) rfl (by kernel_rfl) rfl rfl rfl ((List.Sublist.refl _)) rfl rfl rfl (fun h6 => ?_) (fun h6 => ?_)
        · refine ExD.take (i := 9) rfl (by kernel_rfl) (pureVal_ok rfl) ((List.Sublist.refl _)) rfl rfl rfl ?_
          refine ExD.take (i := 10) rfl (by kernel_rfl) (pureVal_ok rfl) ((List.Sublist.refl _)) rfl rfl rfl ?_
          refine ExD.take (i := 11) rfl (by kernel_rfl) (pureVal_ok rfl) ((List.Sublist.refl _)) rfl rfl rfl ?_
          refine ExD.take (i := 12) rfl (by kernel_rfl) (fr_indexAddrF (Reads.old hl) encT_len rfl rfl rfl rfl rfl rfl (by omega)) ((List.Sublist.refl _)) rfl rfl rfl ?_
          refine ExD.take (i := 13) rfl (by kernel_rfl) (fr_fieldAddrF (i := (↑k : Int).toNat) (Reads.old hl) encT_len rfl rfl rfl (by omega) rfl rfl rfl rfl) ((List.Sublist.refl _)) rfl rfl rfl ?_
          refine ExD.take (i := 14) rfl (by kernel_rfl) (fr_load rfl rfl rfl rfl (by first | exact cellN (Reads.old hl) encT_len zT 0 rfl (by omega) rfl | exact cellF (Reads.old hl) encT_len zT 0 rfl (by omega) rfl)) ((List.Sublist.refl _)) rfl rfl rfl ?_
          refine ExD.take (i := 15) rfl (by kernel_rfl) (pureVal_ok rfl) ((List.Sublist.refl _)) rfl rfl rfl ?_
          refine ExD.take (i := 16) rfl (by kernel_rfl) (pureVal_ok rfl) ((List.Sublist.refl _)) rfl rfl rfl ?_
          refine ExD.take (i := 17) rfl (by kernel_rfl) (by first | exact fr_sub64 rfl rfl rfl (by omega) | exact fr_sub rfl rfl rfl) ((List.Sublist.refl _)) rfl rfl rfl ?_
          refine ExD.take (i := 18) rfl (by kernel_rfl) (fr_indexAddrF (Reads.old hl) encT_len rfl rfl rfl rfl rfl rfl (by omega)) ((List.Sublist.refl _)) rfl rfl rfl ?_
          refine ExD.take (i := 19) rfl (by kernel_rfl) (fr_fieldAddrF (i := ((↑k - 1) : Int).toNat) (Reads.old hl) encT_len rfl rfl rfl (by omega) rfl rfl rfl rfl) ((List.Sublist.refl _)) rfl rfl rfl ?_
          refine ExD.take (i := 20) rfl (by kernel_rfl) (fr_load rfl rfl rfl rfl (cellJ ((k - 1)) (Reads.old hl) encT_len zT 0 rfl (by omega) (by omega) rfl)) ((List.Sublist.refl _)) rfl rfl rfl ?_
          refine ExD.cmp_leq (i := 21) rfl (by kernel_rfl) rfl rfl rfl ((List.Sublist.refl _)) rfl rfl rfl (fun h7 => ?_) (fun h7 => ?_)
          · refine ExD.take (i := 22) rfl (by kernel_rfl) (pureVal_ok rfl) ((List.Sublist.refl _)) rfl rfl rfl ?_
            refine ExD.take (i := 23) rfl (by kernel_rfl) (pureVal_ok rfl) ((List.Sublist.refl _)) rfl rfl rfl ?_
            refine ExD.done (by kernel_rfl) ?_
            refine Ex.cond_t rfl ?_
            refine Ex.regSeq (ExL.pures 3 rfl ?_)
            refine ExL.nil ?_
            refine Ex.ret ?_
            refine RetQ.mk () rfl (.tmp rfl (.tmp rfl .nil)) (t2 (vI (by first | (unfold firstForged; rw [if_pos (by assumption)]; done) | (unfold firstForged; rw [if_neg (by assumption)]; first | (rw [firstB_hit (k := k) (by omega) hall (by first | exact badT_1 (by assumption) | exact badT_2 (by omega) (by omega))]; rfl) | (rw [firstB_none (k := k) (by omega) hall]; rfl)))) (vI (by first | (unfold firstForged; rw [if_pos (by assumption)]; done) | (unfold firstForged; rw [if_neg (by assumption)]; first | (rw [firstB_hit (k := k) (by omega) hall (by first | exact badT_1 (by assumption) | exact badT_2 (by omega) (by omega))]; rfl) | (rw [firstB_none (k := k) (by omega) hall]; rfl))))) [] (rfl) rfl (trivial)
          · refine ExD.take (i := 22) rfl (by kernel_rfl) (pureVal_ok rfl) ((List.Sublist.refl _)) rfl rfl rfl ?_
            refine ExD.take (i := 23) rfl (by kernel_rfl) (pureVal_ok rfl) ((List.Sublist.refl _)) rfl rfl rfl ?_
            refine ExD.done (by kernel_rfl) ?_
            refine Ex.cond_f rfl ?_
            refine Ex.skip ?_
            refine Ex.region (ExL.pures 1 rfl ?_)
            refine ExL.free (by first | exact fr_add64 rfl rfl rfl (by omega) | exact fr_add rfl rfl rfl) rfl rfl rfl ?_
            refine ExL.pures 1 rfl ?_
            refine ExL.nil ?_
            refine Hand.mk (k + 1) 0 [] ⟨rfl, trivial⟩ ⟨rfl, rfl, trivial⟩ (rfl) rfl (⟨by omega, all_snoc hall (badT_f (by assumption) (by omega))⟩) (by omega)
        · refine ExD.take (i := 9) rfl (by kernel_rfl) (pureVal_ok rfl) ((List.Sublist.refl _)) rfl rfl rfl ?_
          refine ExD.pass (i := 10) rfl (by kernel_rfl) ((List.Sublist.refl _)) rfl rfl rfl ?_
          refine ExD.pass (i := 11) rfl (by kernel_rfl) ((List.Sublist.refl _)) rfl rfl rfl ?_
          refine ExD.pass (i := 12) rfl (by kernel_rfl) ((List.Sublist.refl _)) rfl rfl rfl ?_
          refine ExD.pass (i := 13) rfl (by kernel_rfl) ((List.Sublist.refl _)) rfl rfl rfl ?_
          refine ExD.pass (i := 14) rfl (by kernel_rfl) ((List.Sublist.refl _)) rfl rfl rfl ?_
          refine ExD.pass (i := 15) rfl (by kernel_rfl) ((List.Sublist.refl _)) rfl rfl rfl ?_
          refine ExD.pass (i := 16) rfl (by kernel_rfl) ((List.Sublist.refl _)) rfl rfl rfl ?_
          refine ExD.pass (i := 17) rfl (by kernel_rfl) ((List.Sublist.refl _)) rfl rfl rfl ?_
          refine ExD.pass (i := 18) rfl (by kernel_rfl) ((List.Sublist.refl _)) rfl rfl rfl ?_
          refine ExD.pass (i := 19) rfl (by kernel_rfl) ((List.Sublist.refl _)) rfl rfl rfl ?_
          refine ExD.pass (i := 20) rfl (by kernel_rfl) ((List.Sublist.refl _)) rfl rfl rfl ?_
          refine ExD.pass (i := 21) rfl (by kernel_rfl) ((List.Sublist.refl _)) rfl rfl rfl ?_
          refine ExD.take (i := 22) rfl (by kernel_rfl) (pureVal_ok rfl) ((List.Sublist.refl _)) rfl rfl rfl ?_
          refine ExD.take (i := 23) rfl (by kernel_rfl) (pureVal_ok rfl) ((List.Sublist.refl _)) rfl rfl rfl ?_
          refine ExD.done (by kernel_rfl) ?_
          refine Ex.cond_f rfl ?_
          refine Ex.skip ?_
          refine Ex.region (ExL.pures 1 rfl ?_)
          refine ExL.free (by first | exact fr_add64 rfl rfl rfl (by omega) | exact fr_add rfl rfl rfl) rfl rfl rfl ?_
          refine ExL.pures 1 rfl ?_
          refine ExL.nil ?_
          refine Hand.mk (k + 1) 0 [] ⟨rfl, trivial⟩ ⟨rfl, rfl, trivial⟩ (rfl) rfl (⟨by omega, all_snoc hall (badT_f (by assumption) (by omega))⟩) (by omega)
    · refine ExL.nil ?_
      refine Ex.cond_f rfl ?_
      refine Ex.exit ?_
      refine Ex.regSeq (ExL.pures 2 rfl ?_)
      refine ExL.nil ?_
      refine Ex.ret ?_
      refine RetQ.mk () rfl (.tmp rfl (.tmp rfl .nil)) (t2 (vI (by first | (unfold firstForged; rw [if_pos (by assumption)]; done) | (unfold firstForged; rw [if_neg (by assumption)]; first | (rw [firstB_hit (k := k) (by omega) hall (by first | exact badT_1 (by assumption) | exact badT_2 (by omega) (by omega))]; rfl) | (rw [firstB_none (k := k) (by omega) hall]; rfl)))) (vI (by first | (unfold firstForged; rw [if_pos (by assumption)]; done) | (unfold firstForged; rw [if_neg (by assumption)]; first | (rw [firstB_hit (k := k) (by omega) hall (by first | exact badT_1 (by assumption) | exact badT_2 (by omega) (by omega))]; rfl) | (rw [firstB_none (k := k) (by omega) hall]; rfl))))) [] (rfl) rfl (trivial)
end Go.Proofs.Ytjopackngkfdhaa
