/- Several texts, one behind the other. -/
import Derived.Test.YtejedjgajcjejaaDoorProg
import Derived.Test.YtejedjgajcjejaaDoorXaa
import Derived.Test.YtejedjgajcjejaaDoorXab
import Derived.Test.YtejedjgajcjejaaDoorXac
import Derived.Test.YtejedjgajcjejaaDoorXba
/- What these functions of the program hand back, each proved by walking its operations. -/
set_option linter.unusedVariables false
set_option linter.unusedSimpArgs false
set_option maxRecDepth 4000
namespace Go.Proofs.YtejedjgajcjejaaDoor
open Go Go.Sx Go.RowKit Go.W Go.Proofs
attribute [local irreducible] Ex ExL ExD Op1 Free RetQ MutQ Reads CellO SegO LoadsAs
theorem e_33 : Enters Tryd.prog 33 := Enters.of Tryd.func33 rfl
theorem c_eqTotal (a b : VP) : Ret Tryd.prog 33 [.agg (encP a).toArray, .agg (encP b).toArray] (fun w => True) (fun x : Unit => .bool (sameP a b)) (fun x => []) (fun x => True) := by
  refine Ret.of e_33 Tryd.func33 rfl Tryd.ntmps33 rfl rfl (fun w hpre => ?_)
  refine Ex.regSeq (ExL.pures 0 rfl ?_)
  refine ExL.op rfl (op_box rfl rfl rfl rfl rfl (fun b1 => ?_))
  refine ExL.op rfl (op_box rfl rfl rfl rfl rfl (fun b2 => ?_))
  refine ExL.pures 1 rfl ?_
  refine ExL.nil ?_
  refine Ex.seq ?_
  refine Ex.regSeq (ExL.pures 1 rfl ?_)
  refine ExL.free (fr_load rfl rfl rfl rfl (CellO.blk (i := 1) rfl rfl)) rfl rfl rfl ?_
  refine ExL.pures 1 rfl ?_
  refine ExL.free (fr_load rfl rfl rfl rfl (CellO.blk (i := 0) rfl rfl)) rfl rfl rfl ?_
  refine ExL.neq rfl rfl rfl rfl rfl rfl (fun h3 => ?_) (fun h3 => ?_)
  · refine ExL.nil ?_
    refine Ex.cond_t rfl ?_
    refine Ex.regSeq (ExL.pures 1 rfl ?_)
    refine ExL.nil ?_
    refine Ex.ret ?_
    refine RetQ.mk () rfl (.tmp rfl .nil) (tB (by first | rfl | (unfold sameP; first | exact dec_t (by simp_all) | exact dec_f (by simp_all) | exact decide_eq_decide.2 (by simp_all)))) [] (rfl) rfl (trivial)
  · refine ExL.nil ?_
    refine Ex.cond_f rfl ?_
    refine Ex.skip ?_
    refine Ex.seq ?_
    refine Ex.regSeq (ExL.pures 1 rfl ?_)
    refine ExL.free (fr_load rfl rfl rfl rfl (CellO.blk (i := 1) rfl rfl)) rfl rfl rfl ?_
    refine ExL.pures 1 rfl ?_
    refine ExL.free (fr_load rfl rfl rfl rfl (CellO.blk (i := 0) rfl rfl)) rfl rfl rfl ?_
    refine ExL.neq rfl rfl rfl rfl rfl rfl (fun h4 => ?_) (fun h4 => ?_)
    · refine ExL.nil ?_
      refine Ex.cond_t rfl ?_
      refine Ex.regSeq (ExL.pures 1 rfl ?_)
      refine ExL.nil ?_
      refine Ex.ret ?_
      refine RetQ.mk () rfl (.tmp rfl .nil) (tB (by first | rfl | (unfold sameP; first | exact dec_t (by simp_all) | exact dec_f (by simp_all) | exact decide_eq_decide.2 (by simp_all)))) [] (rfl) rfl (trivial)
    · refine ExL.nil ?_
      refine Ex.cond_f rfl ?_
      refine Ex.skip ?_
      refine Ex.regSeq (ExL.pures 1 rfl ?_)
      refine ExL.nil ?_
      refine Ex.ret ?_
      refine RetQ.mk () rfl (.tmp rfl .nil) (tB (by first | rfl | (unfold sameP; first | exact dec_t (by simp_all) | exact dec_f (by simp_all) | exact decide_eq_decide.2 (by simp_all)))) [] (rfl) rfl (trivial)
theorem e_9 : Enters Tryd.prog 9 := Enters.of Tryd.func9 rfl
theorem c_eqTotalS (s : List VP) (As : Option Addr) (cs : Nat) (hls : s.length ≤ maxLen) (t : List VP) (At : Option Addr) (ct : Nat) (hlt : t.length ≤ maxLen) : Ret Tryd.prog 9 [.slice As s.length cs, .slice At t.length ct] (fun w => Rd w As (s.flatMap encP) ∧ Rd w At (t.flatMap encP)) (fun x : Unit => .bool (allEq sameP zP s t)) (fun x => []) (fun x => True) := by
  refine Ret.of e_9 Tryd.func9 rfl Tryd.ntmps9 rfl rfl (fun w hpre => ?_)
  have hs := hpre.1.base
  have ht := hpre.2.base
  have hm0 : maxLen = 9223372036854775807 := rfl
  refine Ex.regSeq (ExL.pures 1 rfl ?_)
  refine ExL.nil ?_
  refine Ex.seq ?_
  refine Ex.regSeq (ExL.pures 4 rfl ?_)
  refine ExL.neq rfl rfl rfl rfl rfl rfl (fun h1 => ?_) (fun h1 => ?_)
  · refine ExL.nil ?_
    refine Ex.cond_t rfl ?_
    refine Ex.regSeq (ExL.pures 1 rfl ?_)
    refine ExL.nil ?_
    refine Ex.ret ?_
    refine RetQ.mk () rfl (.tmp rfl .nil) (tB (by first | exact ae_len (by omega) | exact ae_no k (by omega) (by assumption) | exact ae_yes (k := k) (by omega) (by omega) hall)) [] (rfl) rfl (trivial)
  · refine ExL.nil ?_
    refine Ex.cond_f rfl ?_
    refine Ex.skip ?_
    refine Ex.seq ?_
    refine Ex.regSeq (ExL.pures 1 rfl ?_)
    refine ExL.nil ?_
    refine Ex.block ?_
    refine Ex.loopK (X := Nat) (fun k => [(5, .int .i64 k)]) (fun k => []) (fun k => k ≤ s.length ∧ ∀ i, i < k → sameP (s.getD i zP) (t.getD i zP) = true) (fun k => s.length - k) 0 [(0, _), (1, _)] [] 0 [] ⟨rfl, trivial⟩ ⟨rfl, rfl, trivial⟩ (rfl) rfl ⟨Nat.zero_le _, fun i hi => by omega⟩ (fun k hI => ?_)
    have hI : k ≤ s.length ∧ ∀ i, i < k → sameP (s.getD i zP) (t.getD i zP) = true := hI
    obtain ⟨hk, hall⟩ := hI
    refine Ex.seq ?_
    refine Ex.regSeq (ExL.pures 3 rfl ?_)
    refine ExL.lss rfl rfl rfl rfl rfl rfl (fun h2 => ?_) (fun h2 => ?_)
    · refine ExL.nil ?_
      refine Ex.cond_t rfl ?_
      refine Ex.skip ?_
      refine Ex.seq ?_
      refine Ex.block ?_
      refine Ex.drawSeqM rfl ?_
      refine ExD.take (i := 0) rfl (by kernel_rfl) (pureVal_ok rfl) ((List.Sublist.refl _)) rfl rfl rfl ?_
      refine ExD.take (i := 1) rfl (by kernel_rfl) (pureVal_ok rfl) ((List.Sublist.refl _)) rfl rfl rfl ?_
      refine ExD.take (i := 2) rfl (by kernel_rfl) (fr_indexAddrF (Reads.old hs) encP_len rfl rfl rfl rfl rfl rfl (by omega)) ((List.Sublist.refl _)) rfl rfl rfl ?_
      refine ExD.take (i := 3) rfl (by kernel_rfl) (fr_loadN rfl rfl rfl rfl rfl (by first | exact segN (Reads.old hs) encP_len rfl zP (by omega) | exact segF (Reads.old hs) encP_len rfl zP (by omega))) ((List.Sublist.refl _)) rfl rfl rfl ?_
      refine ExD.take (i := 4) rfl (by kernel_rfl) (pureVal_ok rfl) ((List.Sublist.refl _)) rfl rfl rfl ?_
      refine ExD.take (i := 5) rfl (by kernel_rfl) (pureVal_ok rfl) ((List.Sublist.refl _)) rfl rfl rfl ?_
      refine ExD.take (i := 6) rfl (by kernel_rfl) (fr_indexAddrF (Reads.old ht) encP_len rfl rfl rfl rfl rfl rfl (by omega)) ((List.Sublist.refl _)) rfl rfl rfl ?_
      refine ExD.take (i := 7) rfl (by kernel_rfl) (fr_loadN rfl rfl rfl rfl rfl (by first | exact segN (Reads.old ht) encP_len rfl zP (by omega) | exact segF (Reads.old ht) encP_len rfl zP (by omega))) ((List.Sublist.refl _)) rfl rfl rfl ?_
      refine ExD.op (i := 8) rfl (by kernel_rfl) rfl (op_ret rfl rfl rfl (c_eqTotal (s.getD k zP) (t.getD k zP)) (fun _ _ => trivial) rfl rfl (fun x3 hx3 => ⟨(List.Sublist.refl _), ?_⟩))
      refine ExD.take (i := 9) rfl (by kernel_rfl) (pureVal_ok rfl) ((List.Sublist.refl _)) rfl rfl rfl ?_
      refine ExD.done (by kernel_rfl) ?_
      refine Ex.cond rfl (fun hb4 => ?_) (fun hb4 => ?_)
      · replace hb4 := nb_t hb4
        refine Ex.regSeq (ExL.pures 1 rfl ?_)
        refine ExL.nil ?_
        refine Ex.ret ?_
        refine RetQ.mk () rfl (.tmp rfl .nil) (tB (by first | exact ae_len (by omega) | exact ae_no k (by omega) (by assumption) | exact ae_yes (k := k) (by omega) (by omega) hall)) [] (rfl) rfl (trivial)
      · replace hb4 := nb_f hb4
        refine Ex.skip ?_
        refine Ex.region (ExL.pures 1 rfl ?_)
        refine ExL.free (by first | exact fr_add64 rfl rfl rfl (by omega) | exact fr_add rfl rfl rfl) rfl rfl rfl ?_
        refine ExL.pures 1 rfl ?_
        refine ExL.nil ?_
        refine Hand.mk (k + 1) 0 [] ⟨rfl, trivial⟩ ⟨rfl, rfl, trivial⟩ (rfl) rfl (⟨by omega, all_snoc hall (by first | assumption | omega)⟩) (by omega)
    · refine ExL.nil ?_
      refine Ex.cond_f rfl ?_
      refine Ex.exit ?_
      refine Ex.regSeq (ExL.pures 1 rfl ?_)
      refine ExL.nil ?_
      refine Ex.ret ?_
      refine RetQ.mk () rfl (.tmp rfl .nil) (tB (by first | exact ae_len (by omega) | exact ae_no k (by omega) (by assumption) | exact ae_yes (k := k) (by omega) (by omega) hall)) [] (rfl) rfl (trivial)
theorem e_48 : Enters Tryd.prog 48 := Enters.of Tryd.func48 rfl
theorem c_l06Positive (a : Int) : Ret Tryd.prog 48 [.int .i64 a] (fun w => True) (fun x : Unit => .bool (decide (0 ≤ a ∧ a ≤ 1000000000000))) (fun x => []) (fun x => True) := by
  refine Ret.of e_48 Tryd.func48 rfl Tryd.ntmps48 rfl rfl (fun w hpre => ?_)
  refine Ex.regSeq (ExL.pures 1 rfl ?_)
  refine ExL.nil ?_
  refine Ex.regSeq (ExL.pures 1 rfl ?_)
  refine ExL.op rfl (op_ret rfl rfl rfl (c_l00In _ _ _) (fun _ _ => trivial) rfl rfl (fun x1 hx1 => ?_))
  refine ExL.pures 1 rfl ?_
  refine ExL.nil ?_
  refine Ex.ret ?_
  refine RetQ.mk () rfl (.tmp rfl .nil) (rfl) [] (rfl) rfl (trivial)
theorem e_27 : Enters Tryd.prog 27 := Enters.of Tryd.func27 rfl
theorem c_l06Totals (l : List VP) (Al : Option Addr) (cl : Nat) (hll : l.length ≤ maxLen) : Ret Tryd.prog 27 [.slice Al l.length cl] (fun w => Rd w Al (l.flatMap encP)) (fun x : Unit => .bool (validTot l)) (fun x => []) (fun x => True) := by
  refine Ret.of e_27 Tryd.func27 rfl Tryd.ntmps27 rfl rfl (fun w hpre => ?_)
  have hl := hpre.base
  have hm0 : maxLen = 9223372036854775807 := rfl
  refine Ex.regSeq (ExL.pures 1 rfl ?_)
  refine ExL.nil ?_
  refine Ex.seq ?_
  refine Ex.regSeq (ExL.pures 2 rfl ?_)
  refine ExL.gtr rfl rfl rfl rfl rfl rfl (fun h1 => ?_) (fun h1 => ?_)
  · refine ExL.nil ?_
    refine Ex.cond_t rfl ?_
    refine Ex.regSeq (ExL.pures 1 rfl ?_)
    refine ExL.nil ?_
    refine Ex.ret ?_
    refine RetQ.mk () rfl (.tmp rfl .nil) (tB (by first | exact vt_long (by omega) | exact vt_bad (k := k) (by omega) (ok_f (by first | exact .inl (by assumption) | exact .inr (.inl (by assumption)) | exact .inr (.inr ⟨by omega, by omega⟩))) | exact vt_yes (k := k) (by omega) (by omega) hall)) [] (rfl) rfl (trivial)
  · refine ExL.nil ?_
    refine Ex.cond_f rfl ?_
    refine Ex.skip ?_
    refine Ex.seq ?_
    refine Ex.regSeq (ExL.pures 1 rfl ?_)
    refine ExL.nil ?_
    refine Ex.block ?_
    refine Ex.loopK (X := Nat) (fun k => [(3, .int .i64 k)]) (fun k => []) (fun k => k ≤ l.length ∧ ∀ i, i < k → okT l i = true) (fun k => l.length - k) 0 [(0, _)] [] 0 [] ⟨rfl, trivial⟩ ⟨rfl, trivial⟩ (rfl) rfl ⟨Nat.zero_le _, fun i hi => by omega⟩ (fun k hI => ?_)
    have hI : k ≤ l.length ∧ ∀ i, i < k → okT l i = true := hI
    obtain ⟨hk, hall⟩ := hI
    refine Ex.seq ?_
    refine Ex.regSeq (ExL.pures 3 rfl ?_)
    refine ExL.lss rfl rfl rfl rfl rfl rfl (fun h2 => ?_) (fun h2 => ?_)
    · refine ExL.nil ?_
      refine Ex.cond_t rfl ?_
      refine Ex.skip ?_
      refine Ex.seq ?_
      refine Ex.block ?_
      refine Ex.seq ?_
      refine Ex.regSeq (ExL.pures 2 rfl ?_)
      refine ExL.free (fr_indexAddrF (Reads.old hl) encP_len rfl rfl rfl rfl rfl rfl (by omega)) rfl rfl rfl ?_
      refine ExL.free (fr_fieldAddrF (i := (↑k : Int).toNat) (Reads.old hl) encP_len rfl rfl rfl (by omega) rfl rfl rfl rfl) rfl rfl rfl ?_
      refine ExL.free (fr_load rfl rfl rfl rfl (by first | exact cellN (Reads.old hl) encP_len zP 0 rfl (by omega) rfl | exact cellF (Reads.old hl) encP_len zP 0 rfl (by omega) rfl)) rfl rfl rfl ?_
      refine ExL.op rfl (op_ret rfl rfl rfl (c_l00In _ _ _) (fun _ _ => trivial) rfl rfl (fun x3 hx3 => ?_))
      refine ExL.pures 2 rfl ?_
      refine ExL.bool (d := 20) rfl (fun hb4 => ?_) (fun hb4 => ?_)
      · replace hb4 := nd_t hb4
        refine ExL.pures 8 rfl ?_
        refine ExL.nil ?_
        refine Ex.cond_t rfl ?_
        refine Ex.regSeq (ExL.pures 1 rfl ?_)
        refine ExL.nil ?_
        refine Ex.ret ?_
        refine RetQ.mk () rfl (.tmp rfl .nil) (tB (by first | exact vt_long (by omega) | exact vt_bad (k := k) (by omega) (ok_f (by first | exact .inl (by assumption) | exact .inr (.inl (by assumption)) | exact .inr (.inr ⟨by omega, by omega⟩))) | exact vt_yes (k := k) (by omega) (by omega) hall)) [] (rfl) rfl (trivial)
      · replace hb4 := nd_f hb4
        refine ExL.pures 2 rfl ?_
        refine ExL.free (fr_indexAddrF (Reads.old hl) encP_len rfl rfl rfl rfl rfl rfl (by omega)) rfl rfl rfl ?_
        refine ExL.free (fr_fieldAddrF (i := (↑k : Int).toNat) (Reads.old hl) encP_len rfl rfl rfl (by omega) rfl rfl rfl rfl) rfl rfl rfl ?_
        refine ExL.free (fr_load rfl rfl rfl rfl (by first | exact cellN (Reads.old hl) encP_len zP 1 rfl (by omega) rfl | exact cellF (Reads.old hl) encP_len zP 1 rfl (by omega) rfl)) rfl rfl rfl ?_
        refine ExL.op rfl (op_ret rfl rfl rfl (c_l06Positive _) (fun _ _ => trivial) rfl rfl (fun x5 hx5 => ?_))
        refine ExL.pures 2 rfl ?_
        refine ExL.nil ?_
        refine Ex.cond rfl (fun hb6 => ?_) (fun hb6 => ?_)
        · replace hb6 := nd_t hb6
          refine Ex.regSeq (ExL.pures 1 rfl ?_)
          refine ExL.nil ?_
          refine Ex.ret ?_
          refine RetQ.mk () rfl (.tmp rfl .nil) (tB (by first | exact vt_long (by omega) | exact vt_bad (k := k) (by omega) (ok_f (by first | exact .inl (by assumption) | exact .inr (.inl (by assumption)) | exact .inr (.inr ⟨by omega, by omega⟩))) | exact vt_yes (k := k) (by omega) (by omega) hall)) [] (rfl) rfl (trivial)
        · replace hb6 := nd_f hb6
          refine Ex.skip ?_
          refine Ex.drawSeqM rfl ?_
          refine ExD.take (i := 0) rfl (by kernel_rfl) (pureVal_ok rfl) ((List.Sublist.refl _)) rfl rfl rfl ?_
          refine ExD.cmp_gtr (i := 1) rfl (by kernel_rfl) rfl rfl rfl ((List.Sublist.refl _)) rfl rfl rfl (fun h7 => ?_) (fun h7 => ?_)
          · refine ExD.take (i := 2) rfl (by kernel_rfl) (pureVal_ok rfl) ((List.Sublist.refl _)) rfl rfl rfl ?_
            refine ExD.take (i := 3) rfl (by kernel_rfl) (pureVal_ok rfl) ((List.Sublist.refl _)) rfl rfl rfl ?_
            refine ExD.take (i := 4) rfl (by kernel_rfl) (pureVal_ok rfl) ((List.Sublist.refl _)) rfl rfl rfl ?_
            refine ExD.take (i := 5) rfl (by kernel_rfl) (fr_indexAddrF (Reads.old hl) encP_len rfl rfl rfl rfl rfl rfl (by omega)) ((List.Sublist.refl _)) rfl rfl rfl ?_
            refine ExD.take (i := 6) rfl (by kernel_rfl) (fr_fieldAddrF (i := (↑k : Int).toNat) (Reads.old hl) encP_len rfl rfl rfl (by omega) rfl rfl rfl rfl) ((List.Sublist.refl _)) rfl rfl rfl ?_
            refine ExD.take (i := 7) rfl (by kernel_rfl) (fr_load rfl rfl rfl rfl (by first | exact cellN (Reads.old hl) encP_len zP 0 rfl (by omega) rfl | exact cellF (Reads.old hl) encP_len zP 0 rfl (by omega) rfl)) ((List.Sublist.refl _)) rfl rfl rfl ?_
            refine ExD.take (i := 8) rfl (by kernel_rfl) (pureVal_ok rfl) ((List.Sublist.refl _)) rfl rfl rfl ?_
            refine ExD.take (i := 9) rfl (by kernel_rfl) (pureVal_ok rfl) ((List.Sublist.refl _)) rfl rfl rfl ?_
            refine ExD.take (i := 10) rfl (by kernel_rfl) (by first | exact fr_sub64 rfl rfl rfl (by omega) | exact fr_sub rfl rfl rfl) ((List.Sublist.refl _)) rfl rfl rfl ?_
            refine ExD.take (i := 11) rfl (by kernel_rfl) (fr_indexAddrF (Reads.old hl) encP_len rfl rfl rfl rfl rfl rfl (by omega)) ((List.Sublist.refl _)) rfl rfl rfl ?_
            refine ExD.take (i := 12) rfl (by kernel_rfl) (fr_fieldAddrF (i := ((↑k - 1) : Int).toNat) (Reads.old hl) encP_len rfl rfl rfl (by omega) rfl rfl rfl rfl) ((List.Sublist.refl _)) rfl rfl rfl ?_
            refine ExD.take (i := 13) rfl (by kernel_rfl) (fr_load rfl rfl rfl rfl (cellJ ((k - 1)) (Reads.old hl) encP_len zP 0 rfl (by omega) (by omega) rfl)) ((List.Sublist.refl _)) rfl rfl rfl ?_
            refine ExD.cmp_leq (i := 14) rfl (by kernel_rfl) rfl rfl rfl ((List.Sublist.refl _)) rfl rfl rfl (fun h8 => ?_) (fun h8 => ?_)
            · refine ExD.take (i := 15) rfl (by kernel_rfl) (pureVal_ok rfl) ((List.Sublist.refl _)) rfl rfl rfl ?_
              refine ExD.pass (i := 16) rfl (by kernel_rfl) ((List.Sublist.refl _)) rfl rfl rfl ?_
              refine ExD.pass (i := 17) rfl (by kernel_rfl) ((List.Sublist.refl _)) rfl rfl rfl ?_
              refine ExD.pass (i := 18) rfl (by kernel_rfl) ((List.Sublist.refl _)) rfl rfl rfl ?_
              refine ExD.pass (i := 19) rfl (by kernel_rfl) ((List.Sublist.refl _)) rfl rfl rfl ?_
              refine ExD.pass (i := 20) rfl (by kernel_rfl) ((List.Sublist.refl _)) rfl rfl rfl ?_
              refine ExD.pass (i := 21) rfl (by kernel_rfl) ((List.Sublist.refl _)) rfl rfl rfl ?_
              refine ExD.pass (i := 22) rfl (by kernel_rfl) ((List.Sublist.refl _)) rfl rfl rfl ?_
              refine ExD.pass (i := 23) rfl (by kernel_rfl) ((List.Sublist.refl _)) rfl rfl rfl ?_
              refine ExD.pass (i := 24) rfl (by kernel_rfl) ((List.Sublist.refl _)) rfl rfl rfl ?_
              refine ExD.pass (i := 25) rfl (by kernel_rfl) ((List.Sublist.refl _)) rfl rfl rfl ?_
              refine ExD.pass (i := 26) rfl (by kernel_rfl) ((List.Sublist.refl _)) rfl rfl rfl ?_
              refine ExD.pass (i := 27) rfl (by kernel_rfl) ((List.Sublist.refl _)) rfl rfl rfl ?_
              refine ExD.take (i := 28) rfl (by kernel_rfl) (pureVal_ok rfl) ((List.Sublist.refl _)) rfl rfl rfl ?_
              refine ExD.take (i := 29) rfl (by kernel_rfl) (pureVal_ok rfl) ((List.Sublist.refl _)) rfl rfl rfl ?_
              refine ExD.done (by kernel_rfl) ?_
              refine Ex.cond_t rfl ?_
              refine Ex.regSeq (ExL.pures 1 rfl ?_)
              refine ExL.nil ?_
              refine Ex.ret ?_
              refine RetQ.mk () rfl (.tmp rfl .nil) (tB (by first | exact vt_long (by omega) | exact vt_bad (k := k) (by omega) (ok_f (by first | exact .inl (by assumption) | exact .inr (.inl (by assumption)) | exact .inr (.inr ⟨by omega, by omega⟩))) | exact vt_yes (k := k) (by omega) (by omega) hall)) [] (rfl) rfl (trivial)
            · refine ExD.take (i := 15) rfl (by kernel_rfl) (pureVal_ok rfl) ((List.Sublist.refl _)) rfl rfl rfl ?_
              refine ExD.take (i := 16) rfl (by kernel_rfl) (pureVal_ok rfl) ((List.Sublist.refl _)) rfl rfl rfl ?_
              refine ExD.take (i := 17) rfl (by kernel_rfl) (pureVal_ok rfl) ((List.Sublist.refl _)) rfl rfl rfl ?_
              refine ExD.take (i := 18) rfl (by kernel_rfl) (fr_indexAddrF (Reads.old hl) encP_len rfl rfl rfl rfl rfl rfl (by omega)) ((List.Sublist.refl _)) rfl rfl rfl ?_
              refine ExD.take (i := 19) rfl (by kernel_rfl) (fr_fieldAddrF (i := (↑k : Int).toNat) (Reads.old hl) encP_len rfl rfl rfl (by omega) rfl rfl rfl rfl) ((List.Sublist.refl _)) rfl rfl rfl ?_
              refine ExD.take (i := 20) rfl (by kernel_rfl) (fr_load rfl rfl rfl rfl (by first | exact cellN (Reads.old hl) encP_len zP 1 rfl (by omega) rfl | exact cellF (Reads.old hl) encP_len zP 1 rfl (by omega) rfl)) ((List.Sublist.refl _)) rfl rfl rfl ?_
              refine ExD.take (i := 21) rfl (by kernel_rfl) (pureVal_ok rfl) ((List.Sublist.refl _)) rfl rfl rfl ?_
              refine ExD.take (i := 22) rfl (by kernel_rfl) (pureVal_ok rfl) ((List.Sublist.refl _)) rfl rfl rfl ?_
              refine ExD.take (i := 23) rfl (by kernel_rfl) (by first | exact fr_sub64 rfl rfl rfl (by omega) | exact fr_sub rfl rfl rfl) ((List.Sublist.refl _)) rfl rfl rfl ?_
              refine ExD.take (i := 24) rfl (by kernel_rfl) (fr_indexAddrF (Reads.old hl) encP_len rfl rfl rfl rfl rfl rfl (by omega)) ((List.Sublist.refl _)) rfl rfl rfl ?_
              refine ExD.take (i := 25) rfl (by kernel_rfl) (fr_fieldAddrF (i := ((↑k - 1) : Int).toNat) (Reads.old hl) encP_len rfl rfl rfl (by omega) rfl rfl rfl rfl) ((List.Sublist.refl _)) rfl rfl rfl ?_
              refine ExD.take (i := 26) rfl (by kernel_rfl) (fr_load rfl rfl rfl rfl (cellJ ((k - 1)) (Reads.old hl) encP_len zP 1 rfl (by omega) (by omega) rfl)) ((List.Sublist.refl _)) rfl rfl rfl ?_
              refine ExD.cmp_lss (i := 27) rfl (by kernel_rfl) rfl rfl rfl ((List.Sublist.refl _)) rfl rfl rfl (fun h9 => ?_) (fun h9 => ?_)
              · refine ExD.take (i := 28) rfl (by kernel_rfl) (pureVal_ok rfl) ((List.Sublist.refl _)) rfl rfl rfl ?_
                refine ExD.take (i := 29) rfl (by kernel_rfl) (pureVal_ok rfl) ((List.Sublist.refl _)) rfl rfl rfl ?_
                refine ExD.done (by kernel_rfl) ?_
                refine Ex.cond_t rfl ?_
                refine Ex.regSeq (ExL.pures 1 rfl ?_)
                refine ExL.nil ?_
                refine Ex.ret ?_
                refine RetQ.mk () rfl (.tmp rfl .nil) (tB (by first | exact vt_long (by omega) | exact vt_bad (k := k) (by omega) (ok_f (by first | exact .inl (by assumption) | exact .inr (.inl (by assumption)) | exact .inr (.inr ⟨by omega, by omega⟩))) | exact vt_yes (k := k) (by omega) (by omega) hall)) [] (rfl) rfl (trivial)
              · refine ExD.take (i := 28) rfl (by kernel_rfl) (pureVal_ok rfl) ((List.Sublist.refl _)) rfl rfl rfl ?_
                refine ExD.take (i := 29) rfl (by kernel_rfl) (pureVal_ok rfl) ((List.Sublist.refl _)) rfl rfl rfl ?_
                refine ExD.done (by kernel_rfl) ?_
                refine Ex.cond_f rfl ?_
                refine Ex.skip ?_
                refine Ex.region (ExL.pures 1 rfl ?_)
                refine ExL.free (by first | exact fr_add64 rfl rfl rfl (by omega) | exact fr_add rfl rfl rfl) rfl rfl rfl ?_
                refine ExL.pures 1 rfl ?_
                refine ExL.nil ?_
                refine Hand.mk (k + 1) 0 [] ⟨rfl, trivial⟩ ⟨rfl, trivial⟩ (rfl) rfl (⟨by omega, all_snoc hall (ok_t (by omega) (by omega) (by omega))⟩) (by omega)
          · refine ExD.take (i := 2) rfl (by kernel_rfl) (pureVal_ok rfl) ((List.Sublist.refl _)) rfl rfl rfl ?_
            refine ExD.pass (i := 3) rfl (by kernel_rfl) ((List.Sublist.refl _)) rfl rfl rfl ?_
            refine ExD.pass (i := 4) rfl (by kernel_rfl) ((List.Sublist.refl _)) rfl rfl rfl ?_
            refine ExD.pass (i := 5) rfl (by kernel_rfl) ((List.Sublist.refl _)) rfl rfl rfl ?_
            refine ExD.pass (i := 6) rfl (by kernel_rfl) ((List.Sublist.refl _)) rfl rfl rfl ?_
            refine ExD.pass (i := 7) rfl (by kernel_rfl) ((List.Sublist.refl _)) rfl rfl rfl ?_
            refine ExD.pass (i := 8) rfl (by kernel_rfl) ((List.Sublist.refl _)) rfl rfl rfl ?_
            refine ExD.pass (i := 9) rfl (by kernel_rfl) ((List.Sublist.refl _)) rfl rfl rfl ?_
            refine ExD.pass (i := 10) rfl (by kernel_rfl) ((List.Sublist.refl _)) rfl rfl rfl ?_
            refine ExD.pass (i := 11) rfl (by kernel_rfl) ((List.Sublist.refl _)) rfl rfl rfl ?_
            refine ExD.pass (i := 12) rfl (by kernel_rfl) ((List.Sublist.refl _)) rfl rfl rfl ?_
            refine ExD.pass (i := 13) rfl (by kernel_rfl) ((List.Sublist.refl _)) rfl rfl rfl ?_
            refine ExD.pass (i := 14) rfl (by kernel_rfl) ((List.Sublist.refl _)) rfl rfl rfl ?_
            refine ExD.pass (i := 15) rfl (by kernel_rfl) ((List.Sublist.refl _)) rfl rfl rfl ?_
            refine ExD.pass (i := 16) rfl (by kernel_rfl) ((List.Sublist.refl _)) rfl rfl rfl ?_
            refine ExD.pass (i := 17) rfl (by kernel_rfl) ((List.Sublist.refl _)) rfl rfl rfl ?_
            refine ExD.pass (i := 18) rfl (by kernel_rfl) ((List.Sublist.refl _)) rfl rfl rfl ?_
            refine ExD.pass (i := 19) rfl (by kernel_rfl) ((List.Sublist.refl _)) rfl rfl rfl ?_
            refine ExD.pass (i := 20) rfl (by kernel_rfl) ((List.Sublist.refl _)) rfl rfl rfl ?_
            refine ExD.pass (i := 21) rfl (by kernel_rfl) ((List.Sublist.refl _)) rfl rfl rfl ?_
            refine ExD.pass (i := 22) rfl (by kernel_rfl) ((List.Sublist.refl _)) rfl rfl rfl ?_
            refine ExD.pass (i := 23) rfl (by kernel_rfl) ((List.Sublist.refl _)) rfl rfl rfl ?_
            refine ExD.pass (i := 24) rfl (by kernel_rfl) ((List.Sublist.refl _)) rfl rfl rfl ?_
            refine ExD.pass (i := 25) rfl (by kernel_rfl) ((List.Sublist.refl _)) rfl rfl rfl ?_
            refine ExD.pass (i := 26) rfl (by kernel_rfl) ((List.Sublist.refl _)) rfl rfl rfl ?_
            refine ExD.pass (i := 27) rfl (by kernel_rfl) ((List.Sublist.refl _)) rfl rfl rfl ?_
            refine ExD.pass (i := 28) rfl (by kernel_rfl) ((List.Sublist.refl _)) rfl rfl rfl ?_
            refine ExD.take (i := 29) rfl (by kernel_rfl) (pureVal_ok rfl) ((List.Sublist.refl _)) rfl rfl rfl ?_
            refine ExD.done (by kernel_rfl) ?_
            refine Ex.cond_f rfl ?_
            refine Ex.skip ?_
            refine Ex.region (ExL.pures 1 rfl ?_)
            refine ExL.free (by first | exact fr_add64 rfl rfl rfl (by omega) | exact fr_add rfl rfl rfl) rfl rfl rfl ?_
            refine ExL.pures 1 rfl ?_
            refine ExL.nil ?_
            refine Hand.mk (k + 1) 0 [] ⟨rfl, trivial⟩ ⟨rfl, trivial⟩ (rfl) rfl (⟨by omega, all_snoc hall (ok_t (by omega) (by omega) (by omega))⟩) (by omega)
    · refine ExL.nil ?_
      refine Ex.cond_f rfl ?_
      refine Ex.exit ?_
      refine Ex.regSeq (ExL.pures 1 rfl ?_)
      refine ExL.nil ?_
      refine Ex.ret ?_
      refine RetQ.mk () rfl (.tmp rfl .nil) (tB (by first | exact vt_long (by omega) | exact vt_bad (k := k) (by omega) (ok_f (by first | exact .inl (by assumption) | exact .inr (.inl (by assumption)) | exact .inr (.inr ⟨by omega, by omega⟩))) | exact vt_yes (k := k) (by omega) (by omega) hall)) [] (rfl) rfl (trivial)
theorem e_31 : Enters Tryd.prog 31 := Enters.of Tryd.func31 rfl
theorem c_ValidTotals (l : List VP) (Al : Option Addr) (cl : Nat) (hll : l.length ≤ maxLen) : Ret Tryd.prog 31 [.slice Al l.length cl] (fun w => Rd w Al (l.flatMap encP)) (fun x : Unit => .bool (validTot l)) (fun x => []) (fun x => True) := by
  refine Ret.of e_31 Tryd.func31 rfl Tryd.ntmps31 rfl rfl (fun w hpre => ?_)
  have hl := hpre.base
  have hm0 : maxLen = 9223372036854775807 := rfl
  refine Ex.regSeq (ExL.pures 1 rfl ?_)
  refine ExL.nil ?_
  refine Ex.seq ?_
  refine Ex.regSeq (ExL.pures 2 rfl ?_)
  refine ExL.gtr rfl rfl rfl rfl rfl rfl (fun h1 => ?_) (fun h1 => ?_)
  · refine ExL.nil ?_
    refine Ex.cond_t rfl ?_
    refine Ex.regSeq (ExL.pures 1 rfl ?_)
    refine ExL.nil ?_
    refine Ex.ret ?_
    refine RetQ.mk () rfl (.tmp rfl .nil) (tB (by first | exact vt_long (by omega) | exact vt_bad (k := k) (by omega) (ok_f (by first | exact .inl (by assumption) | exact .inr (.inl (by assumption)) | exact .inr (.inr ⟨by omega, by omega⟩))) | exact vt_yes (k := k) (by omega) (by omega) hall)) [] (rfl) rfl (trivial)
  · refine ExL.nil ?_
    refine Ex.cond_f rfl ?_
    refine Ex.skip ?_
    refine Ex.seq ?_
    refine Ex.regSeq (ExL.pures 3 rfl ?_)
    refine ExL.nil ?_
    refine Ex.block ?_
    refine Ex.loopK (X := Nat) (fun k => [(10, .int .i64 k)]) (fun k => []) (fun k => k ≤ l.length ∧ ∀ i, i < k → okT l i = true) (fun k => l.length - k) 0 [(0, _), (8, _), (9, _)] [] 0 [] ⟨rfl, trivial⟩ ⟨rfl, rfl, rfl, trivial⟩ (rfl) rfl ⟨Nat.zero_le _, fun i hi => by omega⟩ (fun k hI => ?_)
    have hI : k ≤ l.length ∧ ∀ i, i < k → okT l i = true := hI
    obtain ⟨hk, hall⟩ := hI
    refine Ex.regSeq (ExL.pures 0 rfl ?_)
    refine ExL.lss rfl rfl rfl rfl rfl rfl (fun h2 => ?_) (fun h2 => ?_)
    · refine ExL.nil ?_
      refine Ex.seq ?_
      refine Ex.cond_t rfl ?_
      refine Ex.skip ?_
      refine Ex.seq ?_
      refine Ex.block ?_
      refine Ex.regSeq (ExL.pures 1 rfl ?_)
      refine ExL.free (fr_indexAddrF (Reads.old hl) encP_len rfl rfl rfl rfl rfl rfl (by omega)) rfl rfl rfl ?_
      refine ExL.free (fr_loadN rfl rfl rfl rfl rfl (by first | exact segN (Reads.old hl) encP_len rfl zP (by omega) | exact segF (Reads.old hl) encP_len rfl zP (by omega))) rfl rfl rfl ?_
      refine ExL.op rfl (op_alloc rfl rfl rfl rfl rfl (fun b3 => ?_))
      refine ExL.pures 1 rfl ?_
      refine ExL.op rfl (op_storeC (i := 0) rfl rfl rfl rfl rfl rfl rfl rfl rfl rfl ?_)
      refine ExL.nil ?_
      refine Ex.drawSeqM rfl ?_
      refine ExD.take (i := 0) rfl (by kernel_rfl) (pureVal_ok rfl) ((List.Sublist.refl _)) rfl rfl rfl ?_
      refine ExD.take (i := 1) rfl (by kernel_rfl) (fr_load rfl rfl rfl rfl (CellO.blk (i := 0) rfl rfl)) ((List.Sublist.refl _)) rfl rfl rfl ?_
      refine ExD.op (i := 2) rfl (by kernel_rfl) rfl (op_ret rfl rfl rfl (c_within _ _ _) (fun _ _ => trivial) rfl rfl (fun x4 hx4 => ⟨(List.Sublist.refl _), ?_⟩))
      refine ExD.take (i := 3) rfl (by kernel_rfl) (pureVal_ok rfl) ((List.Sublist.refl _)) rfl rfl rfl ?_
      refine ExD.take (i := 4) rfl (by kernel_rfl) (pureVal_ok rfl) ((List.Sublist.refl _)) rfl rfl rfl ?_
      refine ExD.bool (d := 19) rfl (fun hb5 => ?_) (fun hb5 => ?_)
      · replace hb5 := nd_t hb5
        refine ExD.pass (i := 5) rfl (by kernel_rfl) ((List.Sublist.refl _)) rfl rfl rfl ?_
        refine ExD.pass (i := 6) rfl (by kernel_rfl) ((List.Sublist.refl _)) rfl rfl rfl ?_
        refine ExD.pass (i := 7) rfl (by kernel_rfl) ((List.Sublist.refl _)) rfl rfl rfl ?_
        refine ExD.pass (i := 8) rfl (by kernel_rfl) ((List.Sublist.refl _)) rfl rfl rfl ?_
        refine ExD.take (i := 9) rfl (by kernel_rfl) (pureVal_ok rfl) ((List.Sublist.refl _)) rfl rfl rfl ?_
        refine ExD.take (i := 10) rfl (by kernel_rfl) (pureVal_ok rfl) ((List.Sublist.refl _)) rfl rfl rfl ?_
        refine ExD.pass (i := 11) rfl (by kernel_rfl) ((List.Sublist.refl _)) rfl rfl rfl ?_
        refine ExD.pass (i := 12) rfl (by kernel_rfl) ((List.Sublist.refl _)) rfl rfl rfl ?_
        refine ExD.pass (i := 13) rfl (by kernel_rfl) ((List.Sublist.refl _)) rfl rfl rfl ?_
        refine ExD.pass (i := 14) rfl (by kernel_rfl) ((List.Sublist.refl _)) rfl rfl rfl ?_
        refine ExD.pass (i := 15) rfl (by kernel_rfl) ((List.Sublist.refl _)) rfl rfl rfl ?_
        refine ExD.pass (i := 16) rfl (by kernel_rfl) ((List.Sublist.refl _)) rfl rfl rfl ?_
        refine ExD.pass (i := 17) rfl (by kernel_rfl) ((List.Sublist.refl _)) rfl rfl rfl ?_
        refine ExD.pass (i := 18) rfl (by kernel_rfl) ((List.Sublist.refl _)) rfl rfl rfl ?_
        refine ExD.pass (i := 19) rfl (by kernel_rfl) ((List.Sublist.refl _)) rfl rfl rfl ?_
        refine ExD.pass (i := 20) rfl (by kernel_rfl) ((List.Sublist.refl _)) rfl rfl rfl ?_
        refine ExD.pass (i := 21) rfl (by kernel_rfl) ((List.Sublist.refl _)) rfl rfl rfl ?_
        refine ExD.pass (i := 22) rfl (by kernel_rfl) ((List.Sublist.refl _)) rfl rfl rfl ?_
        refine ExD.pass (i := 23) rfl (by kernel_rfl) ((List.Sublist.refl _)) rfl rfl rfl ?_
        refine ExD.pass (i := 24) rfl (by kernel_rfl) ((List.Sublist.refl _)) rfl rfl rfl ?_
        refine ExD.pass (i := 25) rfl (by kernel_rfl) ((List.Sublist.refl _)) rfl rfl rfl ?_
        refine ExD.pass (i := 26) rfl (by kernel_rfl) ((List.Sublist.refl _)) rfl rfl rfl ?_
        refine ExD.pass (i := 27) rfl (by kernel_rfl) ((List.Sublist.refl _)) rfl rfl rfl ?_
        refine ExD.pass (i := 28) rfl (by kernel_rfl) ((List.Sublist.refl _)) rfl rfl rfl ?_
        refine ExD.pass (i := 29) rfl (by kernel_rfl) ((List.Sublist.refl _)) rfl rfl rfl ?_
        refine ExD.pass (i := 30) rfl (by kernel_rfl) ((List.Sublist.refl _)) rfl rfl rfl ?_
        refine ExD.pass (i := 31) rfl (by kernel_rfl) ((List.Sublist.refl _)) rfl rfl rfl ?_
        refine ExD.pass (i := 32) rfl (by kernel_rfl) ((List.Sublist.refl _)) rfl rfl rfl ?_
        refine ExD.pass (i := 33) rfl (by kernel_rfl) ((List.Sublist.refl _)) rfl rfl rfl ?_
        refine ExD.pass (i := 34) rfl (by kernel_rfl) ((List.Sublist.refl _)) rfl rfl rfl ?_
        refine ExD.take (i := 35) rfl (by kernel_rfl) (pureVal_ok rfl) ((List.Sublist.refl _)) rfl rfl rfl ?_
        refine ExD.done (by kernel_rfl) ?_
        refine Ex.cond_t rfl ?_
        refine Ex.regSeq (ExL.pures 1 rfl ?_)
        refine ExL.nil ?_
        refine Ex.ret ?_
        refine RetQ.mk () rfl (.tmp rfl .nil) (tB (by first | exact vt_long (by omega) | exact vt_bad (k := k) (by omega) (ok_f (by first | exact .inl (by assumption) | exact .inr (.inl (by assumption)) | exact .inr (.inr ⟨by omega, by omega⟩))) | exact vt_yes (k := k) (by omega) (by omega) hall)) [] (rfl) rfl (trivial)
      · replace hb5 := nd_f hb5
        refine ExD.take (i := 5) rfl (by kernel_rfl) (pureVal_ok rfl) ((List.Sublist.refl _)) rfl rfl rfl ?_
        refine ExD.take (i := 6) rfl (by kernel_rfl) (fr_load rfl rfl rfl rfl (CellO.blk (i := 0) rfl rfl)) ((List.Sublist.refl _)) rfl rfl rfl ?_
        refine ExD.op (i := 7) rfl (by kernel_rfl) rfl (op_ret rfl rfl rfl (c_within _ _ _) (fun _ _ => trivial) rfl rfl (fun x6 hx6 => ⟨(List.Sublist.refl _), ?_⟩))
        refine ExD.take (i := 8) rfl (by kernel_rfl) (pureVal_ok rfl) ((List.Sublist.refl _)) rfl rfl rfl ?_
        refine ExD.take (i := 9) rfl (by kernel_rfl) (pureVal_ok rfl) ((List.Sublist.refl _)) rfl rfl rfl ?_
        refine ExD.take (i := 10) rfl (by kernel_rfl) (pureVal_ok rfl) ((List.Sublist.refl _)) rfl rfl rfl ?_
        refine ExD.bool (d := 25) rfl (fun hb7 => ?_) (fun hb7 => ?_)
        · replace hb7 := nd_t hb7
          refine ExD.pass (i := 11) rfl (by kernel_rfl) ((List.Sublist.refl _)) rfl rfl rfl ?_
          refine ExD.pass (i := 12) rfl (by kernel_rfl) ((List.Sublist.refl _)) rfl rfl rfl ?_
          refine ExD.pass (i := 13) rfl (by kernel_rfl) ((List.Sublist.refl _)) rfl rfl rfl ?_
          refine ExD.pass (i := 14) rfl (by kernel_rfl) ((List.Sublist.refl _)) rfl rfl rfl ?_
          refine ExD.pass (i := 15) rfl (by kernel_rfl) ((List.Sublist.refl _)) rfl rfl rfl ?_
          refine ExD.pass (i := 16) rfl (by kernel_rfl) ((List.Sublist.refl _)) rfl rfl rfl ?_
          refine ExD.pass (i := 17) rfl (by kernel_rfl) ((List.Sublist.refl _)) rfl rfl rfl ?_
          refine ExD.pass (i := 18) rfl (by kernel_rfl) ((List.Sublist.refl _)) rfl rfl rfl ?_
          refine ExD.pass (i := 19) rfl (by kernel_rfl) ((List.Sublist.refl _)) rfl rfl rfl ?_
          refine ExD.pass (i := 20) rfl (by kernel_rfl) ((List.Sublist.refl _)) rfl rfl rfl ?_
          refine ExD.pass (i := 21) rfl (by kernel_rfl) ((List.Sublist.refl _)) rfl rfl rfl ?_
          refine ExD.pass (i := 22) rfl (by kernel_rfl) ((List.Sublist.refl _)) rfl rfl rfl ?_
          refine ExD.pass (i := 23) rfl (by kernel_rfl) ((List.Sublist.refl _)) rfl rfl rfl ?_
          refine ExD.pass (i := 24) rfl (by kernel_rfl) ((List.Sublist.refl _)) rfl rfl rfl ?_
          refine ExD.pass (i := 25) rfl (by kernel_rfl) ((List.Sublist.refl _)) rfl rfl rfl ?_
          refine ExD.pass (i := 26) rfl (by kernel_rfl) ((List.Sublist.refl _)) rfl rfl rfl ?_
          refine ExD.pass (i := 27) rfl (by kernel_rfl) ((List.Sublist.refl _)) rfl rfl rfl ?_
          refine ExD.pass (i := 28) rfl (by kernel_rfl) ((List.Sublist.refl _)) rfl rfl rfl ?_
          refine ExD.pass (i := 29) rfl (by kernel_rfl) ((List.Sublist.refl _)) rfl rfl rfl ?_
          refine ExD.pass (i := 30) rfl (by kernel_rfl) ((List.Sublist.refl _)) rfl rfl rfl ?_
          refine ExD.pass (i := 31) rfl (by kernel_rfl) ((List.Sublist.refl _)) rfl rfl rfl ?_
          refine ExD.pass (i := 32) rfl (by kernel_rfl) ((List.Sublist.refl _)) rfl rfl rfl ?_
          refine ExD.pass (i := 33) rfl (by kernel_rfl) ((List.Sublist.refl _)) rfl rfl rfl ?_
          refine ExD.pass (i := 34) rfl (by kernel_rfl) ((List.Sublist.refl _)) rfl rfl rfl ?_
          refine ExD.take (i := 35) rfl (by kernel_rfl) (pureVal_ok rfl) ((List.Sublist.refl _)) rfl rfl rfl ?_
          refine ExD.done (by kernel_rfl) ?_
          refine Ex.cond_t rfl ?_
          refine Ex.regSeq (ExL.pures 1 rfl ?_)
          refine ExL.nil ?_
          refine Ex.ret ?_
          refine RetQ.mk () rfl (.tmp rfl .nil) (tB (by first | exact vt_long (by omega) | exact vt_bad (k := k) (by omega) (ok_f (by first | exact .inl (by assumption) | exact .inr (.inl (by assumption)) | exact .inr (.inr ⟨by omega, by omega⟩))) | exact vt_yes (k := k) (by omega) (by omega) hall)) [] (rfl) rfl (trivial)
        · replace hb7 := nd_f hb7
          refine ExD.take (i := 11) rfl (by kernel_rfl) (pureVal_ok rfl) ((List.Sublist.refl _)) rfl rfl rfl ?_
          refine ExD.cmp_gtr (i := 12) rfl (by kernel_rfl) rfl rfl rfl ((List.Sublist.refl _)) rfl rfl rfl (fun h8 => ?_) (fun h8 => ?_)
          · refine ExD.take (i := 13) rfl (by kernel_rfl) (pureVal_ok rfl) ((List.Sublist.refl _)) rfl rfl rfl ?_
            refine ExD.take (i := 14) rfl (by kernel_rfl) (pureVal_ok rfl) ((List.Sublist.refl _)) rfl rfl rfl ?_
            refine ExD.take (i := 15) rfl (by kernel_rfl) (pureVal_ok rfl) ((List.Sublist.refl _)) rfl rfl rfl ?_
            refine ExD.take (i := 16) rfl (by kernel_rfl) (by first | exact fr_sub64 rfl rfl rfl (by omega) | exact fr_sub rfl rfl rfl) ((List.Sublist.refl _)) rfl rfl rfl ?_
            refine ExD.take (i := 17) rfl (by kernel_rfl) (fr_indexAddrF (Reads.old hl) encP_len rfl rfl rfl rfl rfl rfl (by omega)) ((List.Sublist.refl _)) rfl rfl rfl ?_
            refine ExD.take (i := 18) rfl (by kernel_rfl) (fr_fieldAddrF (i := ((↑k - 1) : Int).toNat) (Reads.old hl) encP_len rfl rfl rfl (by omega) rfl rfl rfl rfl) ((List.Sublist.refl _)) rfl rfl rfl ?_
            refine ExD.take (i := 19) rfl (by kernel_rfl) (fr_load rfl rfl rfl rfl (cellJ ((k - 1)) (Reads.old hl) encP_len zP 0 rfl (by omega) (by omega) rfl)) ((List.Sublist.refl _)) rfl rfl rfl ?_
            refine ExD.take (i := 20) rfl (by kernel_rfl) (pureVal_ok rfl) ((List.Sublist.refl _)) rfl rfl rfl ?_
            refine ExD.take (i := 21) rfl (by kernel_rfl) (fr_load rfl rfl rfl rfl (CellO.blk (i := 0) rfl rfl)) ((List.Sublist.refl _)) rfl rfl rfl ?_
            refine ExD.cmp_geq (i := 22) rfl (by kernel_rfl) rfl rfl rfl ((List.Sublist.refl _)) rfl rfl rfl (fun h9 => ?_) (fun h9 => ?_)
            · refine ExD.take (i := 23) rfl (by kernel_rfl) (pureVal_ok rfl) ((List.Sublist.refl _)) rfl rfl rfl ?_
              refine ExD.pass (i := 24) rfl (by kernel_rfl) ((List.Sublist.refl _)) rfl rfl rfl ?_
              refine ExD.pass (i := 25) rfl (by kernel_rfl) ((List.Sublist.refl _)) rfl rfl rfl ?_
              refine ExD.pass (i := 26) rfl (by kernel_rfl) ((List.Sublist.refl _)) rfl rfl rfl ?_
              refine ExD.pass (i := 27) rfl (by kernel_rfl) ((List.Sublist.refl _)) rfl rfl rfl ?_
              refine ExD.pass (i := 28) rfl (by kernel_rfl) ((List.Sublist.refl _)) rfl rfl rfl ?_
              refine ExD.pass (i := 29) rfl (by kernel_rfl) ((List.Sublist.refl _)) rfl rfl rfl ?_
              refine ExD.pass (i := 30) rfl (by kernel_rfl) ((List.Sublist.refl _)) rfl rfl rfl ?_
              refine ExD.pass (i := 31) rfl (by kernel_rfl) ((List.Sublist.refl _)) rfl rfl rfl ?_
              refine ExD.pass (i := 32) rfl (by kernel_rfl) ((List.Sublist.refl _)) rfl rfl rfl ?_
              refine ExD.take (i := 33) rfl (by kernel_rfl) (pureVal_ok rfl) ((List.Sublist.refl _)) rfl rfl rfl ?_
              refine ExD.take (i := 34) rfl (by kernel_rfl) (pureVal_ok rfl) ((List.Sublist.refl _)) rfl rfl rfl ?_
              refine ExD.take (i := 35) rfl (by kernel_rfl) (pureVal_ok rfl) ((List.Sublist.refl _)) rfl rfl rfl ?_
              refine ExD.done (by kernel_rfl) ?_
              refine Ex.cond_t rfl ?_
              refine Ex.regSeq (ExL.pures 1 rfl ?_)
              refine ExL.nil ?_
              refine Ex.ret ?_
              refine RetQ.mk () rfl (.tmp rfl .nil) (tB (by first | exact vt_long (by omega) | exact vt_bad (k := k) (by omega) (ok_f (by first | exact .inl (by assumption) | exact .inr (.inl (by assumption)) | exact .inr (.inr ⟨by omega, by omega⟩))) | exact vt_yes (k := k) (by omega) (by omega) hall)) [] (rfl) rfl (trivial)
            · refine ExD.take (i := 23) rfl (by kernel_rfl) (pureVal_ok rfl) ((List.Sublist.refl _)) rfl rfl rfl ?_
              refine ExD.take (i := 24) rfl (by kernel_rfl) (pureVal_ok rfl) ((List.Sublist.refl _)) rfl rfl rfl ?_
              refine ExD.take (i := 25) rfl (by kernel_rfl) (pureVal_ok rfl) ((List.Sublist.refl _)) rfl rfl rfl ?_
              refine ExD.take (i := 26) rfl (by kernel_rfl) (by first | exact fr_sub64 rfl rfl rfl (by omega) | exact fr_sub rfl rfl rfl) ((List.Sublist.refl _)) rfl rfl rfl ?_
              refine ExD.take (i := 27) rfl (by kernel_rfl) (fr_indexAddrF (Reads.old hl) encP_len rfl rfl rfl rfl rfl rfl (by omega)) ((List.Sublist.refl _)) rfl rfl rfl ?_
              refine ExD.take (i := 28) rfl (by kernel_rfl) (fr_fieldAddrF (i := ((↑k - 1) : Int).toNat) (Reads.old hl) encP_len rfl rfl rfl (by omega) rfl rfl rfl rfl) ((List.Sublist.refl _)) rfl rfl rfl ?_
              refine ExD.take (i := 29) rfl (by kernel_rfl) (fr_load rfl rfl rfl rfl (cellJ ((k - 1)) (Reads.old hl) encP_len zP 1 rfl (by omega) (by omega) rfl)) ((List.Sublist.refl _)) rfl rfl rfl ?_
              refine ExD.take (i := 30) rfl (by kernel_rfl) (pureVal_ok rfl) ((List.Sublist.refl _)) rfl rfl rfl ?_
              refine ExD.take (i := 31) rfl (by kernel_rfl) (fr_load rfl rfl rfl rfl (CellO.blk (i := 0) rfl rfl)) ((List.Sublist.refl _)) rfl rfl rfl ?_
              refine ExD.cmp_gtr (i := 32) rfl (by kernel_rfl) rfl rfl rfl ((List.Sublist.refl _)) rfl rfl rfl (fun h10 => ?_) (fun h10 => ?_)
              · refine ExD.take (i := 33) rfl (by kernel_rfl) (pureVal_ok rfl) ((List.Sublist.refl _)) rfl rfl rfl ?_
                refine ExD.take (i := 34) rfl (by kernel_rfl) (pureVal_ok rfl) ((List.Sublist.refl _)) rfl rfl rfl ?_
                refine ExD.take (i := 35) rfl (by kernel_rfl) (pureVal_ok rfl) ((List.Sublist.refl _)) rfl rfl rfl ?_
                refine ExD.done (by kernel_rfl) ?_
                refine Ex.cond_t rfl ?_
                refine Ex.regSeq (ExL.pures 1 rfl ?_)
                refine ExL.nil ?_
                refine Ex.ret ?_
                refine RetQ.mk () rfl (.tmp rfl .nil) (tB (by first | exact vt_long (by omega) | exact vt_bad (k := k) (by omega) (ok_f (by first | exact .inl (by assumption) | exact .inr (.inl (by assumption)) | exact .inr (.inr ⟨by omega, by omega⟩))) | exact vt_yes (k := k) (by omega) (by omega) hall)) [] (rfl) rfl (trivial)
              · refine ExD.take (i := 33) rfl (by kernel_rfl) (pureVal_ok rfl) ((List.Sublist.refl _)) rfl rfl rfl ?_
                refine ExD.take (i := 34) rfl (by kernel_rfl) (pureVal_ok rfl) ((List.Sublist.refl _)) rfl rfl rfl ?_
                refine ExD.take (i := 35) rfl (by kernel_rfl) (pureVal_ok rfl) ((List.Sublist.refl _)) rfl rfl rfl ?_
                refine ExD.done (by kernel_rfl) ?_
                refine Ex.cond_f rfl ?_
                refine Ex.skip ?_
                refine Ex.region (ExL.pures 0 rfl ?_)
                refine ExL.free (by first | exact fr_add64 rfl rfl rfl (by omega) | exact fr_add rfl rfl rfl) rfl rfl rfl ?_
                refine ExL.pures 1 rfl ?_
                refine ExL.nil ?_
                refine Hand.mk (k + 1) 1 [] ⟨rfl, trivial⟩ ⟨rfl, rfl, rfl, trivial⟩ (rfl) rfl (⟨by omega, all_snoc hall (ok_t (by omega) (by omega) (by omega))⟩) (by omega)
          · refine ExD.take (i := 13) rfl (by kernel_rfl) (pureVal_ok rfl) ((List.Sublist.refl _)) rfl rfl rfl ?_
            refine ExD.pass (i := 14) rfl (by kernel_rfl) ((List.Sublist.refl _)) rfl rfl rfl ?_
            refine ExD.pass (i := 15) rfl (by kernel_rfl) ((List.Sublist.refl _)) rfl rfl rfl ?_
            refine ExD.pass (i := 16) rfl (by kernel_rfl) ((List.Sublist.refl _)) rfl rfl rfl ?_
            refine ExD.pass (i := 17) rfl (by kernel_rfl) ((List.Sublist.refl _)) rfl rfl rfl ?_
            refine ExD.pass (i := 18) rfl (by kernel_rfl) ((List.Sublist.refl _)) rfl rfl rfl ?_
            refine ExD.pass (i := 19) rfl (by kernel_rfl) ((List.Sublist.refl _)) rfl rfl rfl ?_
            refine ExD.pass (i := 20) rfl (by kernel_rfl) ((List.Sublist.refl _)) rfl rfl rfl ?_
            refine ExD.pass (i := 21) rfl (by kernel_rfl) ((List.Sublist.refl _)) rfl rfl rfl ?_
            refine ExD.pass (i := 22) rfl (by kernel_rfl) ((List.Sublist.refl _)) rfl rfl rfl ?_
            refine ExD.pass (i := 23) rfl (by kernel_rfl) ((List.Sublist.refl _)) rfl rfl rfl ?_
            refine ExD.pass (i := 24) rfl (by kernel_rfl) ((List.Sublist.refl _)) rfl rfl rfl ?_
            refine ExD.pass (i := 25) rfl (by kernel_rfl) ((List.Sublist.refl _)) rfl rfl rfl ?_
            refine ExD.pass (i := 26) rfl (by kernel_rfl) ((List.Sublist.refl _)) rfl rfl rfl ?_
            refine ExD.pass (i := 27) rfl (by kernel_rfl) ((List.Sublist.refl _)) rfl rfl rfl ?_
            refine ExD.pass (i := 28) rfl (by kernel_rfl) ((List.Sublist.refl _)) rfl rfl rfl ?_
            refine ExD.pass (i := 29) rfl (by kernel_rfl) ((List.Sublist.refl _)) rfl rfl rfl ?_
            refine ExD.pass (i := 30) rfl (by kernel_rfl) ((List.Sublist.refl _)) rfl rfl rfl ?_
            refine ExD.pass (i := 31) rfl (by kernel_rfl) ((List.Sublist.refl _)) rfl rfl rfl ?_
            refine ExD.pass (i := 32) rfl (by kernel_rfl) ((List.Sublist.refl _)) rfl rfl rfl ?_
            refine ExD.pass (i := 33) rfl (by kernel_rfl) ((List.Sublist.refl _)) rfl rfl rfl ?_
            refine ExD.take (i := 34) rfl (by kernel_rfl) (pureVal_ok rfl) ((List.Sublist.refl _)) rfl rfl rfl ?_
            refine ExD.take (i := 35) rfl (by kernel_rfl) (pureVal_ok rfl) ((List.Sublist.refl _)) rfl rfl rfl ?_
            refine ExD.done (by kernel_rfl) ?_
            refine Ex.cond_f rfl ?_
            refine Ex.skip ?_
            refine Ex.region (ExL.pures 0 rfl ?_)
            refine ExL.free (by first | exact fr_add64 rfl rfl rfl (by omega) | exact fr_add rfl rfl rfl) rfl rfl rfl ?_
            refine ExL.pures 1 rfl ?_
            refine ExL.nil ?_
            refine Hand.mk (k + 1) 1 [] ⟨rfl, trivial⟩ ⟨rfl, rfl, rfl, trivial⟩ (rfl) rfl (⟨by omega, all_snoc hall (ok_t (by omega) (by omega) (by omega))⟩) (by omega)
    · refine ExL.nil ?_
      refine Ex.seq ?_
      refine Ex.cond_f rfl ?_
      refine Ex.exit ?_
      refine Ex.regSeq (ExL.pures 1 rfl ?_)
      refine ExL.nil ?_
      refine Ex.ret ?_
      refine RetQ.mk () rfl (.tmp rfl .nil) (tB (by first | exact vt_long (by omega) | exact vt_bad (k := k) (by omega) (ok_f (by first | exact .inl (by assumption) | exact .inr (.inl (by assumption)) | exact .inr (.inr ⟨by omega, by omega⟩))) | exact vt_yes (k := k) (by omega) (by omega) hall)) [] (rfl) rfl (trivial)
end Go.Proofs.YtejedjgajcjejaaDoor

/- What these functions of the program hand back, each proved by walking its operations. -/
set_option linter.unusedVariables false
set_option linter.unusedSimpArgs false
set_option maxRecDepth 4000
namespace Go.Proofs.YtejedjgajcjejaaDoor
open Go Go.Sx Go.RowKit Go.W Go.Proofs
attribute [local irreducible] Ex ExL ExD Op1 Free RetQ MutQ Reads CellO SegO LoadsAs
theorem e_87 : Enters Tryd.prog 87 := Enters.of Tryd.func87 rfl
theorem copyCheck_n (b : Nat) (A : Option Addr) (n c : Nat) : Mut Tryd.prog 87 [.pointer (some ⟨b, 0, none⟩)] [.blk b [.pointer none, .slice A n c] 91] (fun base w0 F => True) (fun x : Unit => .tuple #[]) (fun x => [.blk b [.pointer (some ⟨b, 0, none⟩), .slice A n c] 91]) (fun x => True) := by
  refine Mut.of e_87 Tryd.func87 rfl Tryd.ntmps87 rfl rfl (fun base w0 F hfr => ?_)
  refine Ex.regSeq (ExL.pures 3 rfl ?_)
  refine ExL.free (fr_load rfl rfl rfl rfl (CellO.blk (i := 0) rfl rfl)) rfl rfl rfl ?_
  refine ExL.free (fr_eql_ptr_n rfl rfl rfl rfl) rfl rfl rfl ?_
  refine ExL.nil ?_
  refine Ex.cond_t rfl ?_
  refine Ex.region (ExL.pures 2 rfl ?_)
  refine ExL.free (fr_toUnsafe (i := 0) rfl rfl rfl rfl rfl rfl rfl rfl) rfl rfl rfl ?_
  refine ExL.free (fr_noEsc rfl rfl rfl rfl Tryd.func113 (by kernel_rfl) rfl (by kernel_rfl) (by kernel_rfl)) rfl rfl rfl ?_
  refine ExL.free (fr_fromUnsafe (i := 0) rfl rfl rfl rfl rfl rfl (by kernel_rfl)) rfl rfl rfl ?_
  refine ExL.pures 2 rfl ?_
  refine ExL.op rfl (op_storeC (i := 0) rfl rfl rfl rfl rfl rfl rfl rfl rfl rfl ?_)
  refine ExL.nil ?_
  refine MutQ.mk () rfl .nil (rfl) 1 [0] (rfl) rfl (trivial)
theorem copyCheck_s (b : Nat) (A : Option Addr) (n c : Nat) : Mut Tryd.prog 87 [.pointer (some ⟨b, 0, none⟩)] [.blk b [.pointer (some ⟨b, 0, none⟩), .slice A n c] 91] (fun base w0 F => True) (fun x : Unit => .tuple #[]) (fun x => [.blk b [.pointer (some ⟨b, 0, none⟩), .slice A n c] 91]) (fun x => True) := by
  refine Mut.of e_87 Tryd.func87 rfl Tryd.ntmps87 rfl rfl (fun base w0 F hfr => ?_)
  refine Ex.regSeq (ExL.pures 3 rfl ?_)
  refine ExL.free (fr_load rfl rfl rfl rfl (CellO.blk (i := 0) rfl rfl)) rfl rfl rfl ?_
  refine ExL.free (fr_eql_ptr_s rfl rfl rfl rfl) rfl rfl rfl ?_
  refine ExL.nil ?_
  refine Ex.cond_f rfl ?_
  refine Ex.regSeq (ExL.pures 3 rfl ?_)
  refine ExL.free (fr_load rfl rfl rfl rfl (CellO.blk (i := 0) rfl rfl)) rfl rfl rfl ?_
  refine ExL.pures 1 rfl ?_
  refine ExL.free (fr_neq_ptr_same rfl rfl rfl rfl rfl) rfl rfl rfl ?_
  refine ExL.nil ?_
  refine Ex.cond_f rfl ?_
  refine Ex.skip ?_
  refine MutQ.mk () rfl .nil (rfl) 1 [0] (rfl) rfl (trivial)
theorem copyCheck_j (b : Nat) (u : Bool) (A : Option Addr) (n c : Nat) : Mut Tryd.prog 87 [.pointer (some ⟨b, 0, none⟩)] [.blk b [bp b u, .slice A n c] 91] (fun _ _ _ => True) (fun _ : Unit => .tuple #[]) (fun _ => [.blk b [bp b true, .slice A n c] 91]) (fun _ => True) := by
  cases u
  · exact copyCheck_n b A n c
  · exact copyCheck_s b A n c
theorem e_53 : Enters Tryd.prog 53 := Enters.of Tryd.func53 rfl
theorem c_WriteString (b : Nat) (u : Bool) (xs : List UInt8) (A : Option Addr) (c : Nat) (l : List UInt8) (hb : xs.length + l.length ≤ 140737488355328) : Mut Tryd.prog 53 [.pointer (some ⟨b, 0, none⟩), sv l] [.blk b [bp b u, .slice A xs.length c] 91, .row (.slice A xs.length c) 5 1 xs.length (xs.flatMap eU)] (fun base w0 F => True) (fun x : Option Addr × Nat => .tuple #[.int .i64 l.length, .nilIface]) (fun x => [.blk b [bp b true, .slice x.1 (xs ++ l).length x.2] 91, .row (.slice x.1 (xs ++ l).length x.2) 5 1 (xs ++ l).length ((xs ++ l).flatMap eU)]) (fun x => True) := by
  refine Mut.of e_53 Tryd.func53 rfl Tryd.ntmps53 rfl rfl (fun base w0 F hfr => ?_)
  refine Ex.regSeq (ExL.pures 2 rfl ?_)
  refine ExL.nil ?_
  refine Ex.regSeq (ExL.pures 1 rfl ?_)
  refine ExL.op rfl (op_mut rfl rfl rfl (copyCheck_j b u _ _ _) (perm_at (i := 0) rfl) (trivial) rfl rfl (fun x1 hx1 => ?_))
  refine ExL.nil ?_
  refine Ex.regSeq (ExL.pures 4 rfl ?_)
  refine ExL.free (fr_load rfl rfl rfl rfl (CellO.blk (i := 0) rfl rfl)) rfl rfl rfl ?_
  refine ExL.pures 1 rfl ?_
  refine ExL.op rfl (op_appendT (xs := xs) (l := l) (i := 1) rfl rfl rfl rfl rfl rfl rfl rfl (by omega) rfl rfl (fun A2 cA2 => ?_))
  refine ExL.pures 2 rfl ?_
  refine ExL.op rfl (op_storeC (i := 0) rfl rfl rfl rfl rfl rfl rfl rfl rfl rfl ?_)
  refine ExL.nil ?_
  refine Ex.regSeq (ExL.pures 1 rfl ?_)
  refine ExL.free (fr_lenS (l := l) rfl rfl rfl) rfl rfl rfl ?_
  refine ExL.pures 2 rfl ?_
  refine ExL.nil ?_
  refine Ex.ret ?_
  refine MutQ.mk (A2, cA2) rfl (.tmp rfl (.tmp rfl .nil)) (rfl) 2 [0, 1] (rfl) rfl (trivial)
theorem e_54 : Enters Tryd.prog 54 := Enters.of Tryd.func54 rfl
theorem c_String_0 (b : Nat) (u : Bool) : Mut Tryd.prog 54 [.pointer (some ⟨b, 0, none⟩)] [.blk b [bp b u, .slice none 0 0] 91] (fun base w0 F => True) (fun x : Unit => sv []) (fun x => []) (fun x => True) := by
  refine Mut.of e_54 Tryd.func54 rfl Tryd.ntmps54 rfl rfl (fun base w0 F hfr => ?_)
  refine Ex.regSeq (ExL.pures 1 rfl ?_)
  refine ExL.nil ?_
  refine Ex.drawSeqM rfl ?_
  refine ExD.take (i := 0) rfl (by kernel_rfl) (pureVal_ok rfl) ((List.Sublist.refl _)) rfl rfl rfl ?_
  refine ExD.take (i := 1) rfl (by kernel_rfl) (pureVal_ok rfl) ((List.Sublist.refl _)) rfl rfl rfl ?_
  refine ExD.take (i := 2) rfl (by kernel_rfl) (pureVal_ok rfl) ((List.Sublist.refl _)) rfl rfl rfl ?_
  refine ExD.take (i := 3) rfl (by kernel_rfl) (fr_load rfl rfl rfl rfl (CellO.blk (i := 0) rfl rfl)) ((List.Sublist.refl _)) rfl rfl rfl ?_
  refine ExD.take (i := 4) rfl (by kernel_rfl) (fr_sliceData_n rfl rfl) ((List.Sublist.refl _)) rfl rfl rfl ?_
  refine ExD.take (i := 5) rfl (by kernel_rfl) (pureVal_ok rfl) ((List.Sublist.refl _)) rfl rfl rfl ?_
  refine ExD.take (i := 6) rfl (by kernel_rfl) (pureVal_ok rfl) ((List.Sublist.refl _)) rfl rfl rfl ?_
  refine ExD.take (i := 7) rfl (by kernel_rfl) (pureVal_ok rfl) ((List.Sublist.refl _)) rfl rfl rfl ?_
  refine ExD.take (i := 8) rfl (by kernel_rfl) (fr_load rfl rfl rfl rfl (CellO.blk (i := 0) rfl rfl)) ((List.Sublist.refl _)) rfl rfl rfl ?_
  refine ExD.take (i := 9) rfl (by kernel_rfl) (pureVal_ok rfl) ((List.Sublist.refl _)) rfl rfl rfl ?_
  refine ExD.take (i := 10) rfl (by kernel_rfl) (fr_unsafeString_n rfl rfl rfl) ((List.Sublist.refl _)) rfl rfl rfl ?_
  refine ExD.take (i := 11) rfl (by kernel_rfl) (pureVal_ok rfl) ((List.Sublist.refl _)) rfl rfl rfl ?_
  refine ExD.done (by kernel_rfl) ?_
  refine Ex.ret ?_
  refine MutQ.mk () rfl (.tmp rfl .nil) (rfl) 1 [] (rfl) rfl (trivial)
theorem c_String_1 (b : Nat) (u : Bool) (xs : List UInt8) (A : Option Addr) (c : Nat) (h0 : 0 < xs.length) : Mut Tryd.prog 54 [.pointer (some ⟨b, 0, none⟩)] [.blk b [bp b u, .slice A xs.length c] 91, .row (.slice A xs.length c) 5 1 xs.length (xs.flatMap eU)] (fun base w0 F => True) (fun x : Unit => sv xs) (fun x => []) (fun x => True) := by
  refine Mut.of e_54 Tryd.func54 rfl Tryd.ntmps54 rfl rfl (fun base w0 F hfr => ?_)
  refine Ex.know (row_own (i := 1) rfl h0) (fun ⟨g, hg, hc0⟩ => ?_)
  subst hg
  refine Ex.regSeq (ExL.pures 1 rfl ?_)
  refine ExL.nil ?_
  refine Ex.drawSeqI [0] rfl rfl ?_
  refine ExD.take (i := 0) rfl (by kernel_rfl) (pureVal_ok rfl) ((List.Sublist.cons_cons _ (List.nil_sublist _))) rfl rfl rfl ?_
  refine ExD.take (i := 1) rfl (by kernel_rfl) (pureVal_ok rfl) ((List.Sublist.cons_cons _ (List.nil_sublist _))) rfl rfl rfl ?_
  refine ExD.take (i := 2) rfl (by kernel_rfl) (pureVal_ok rfl) ((List.Sublist.cons_cons _ (List.nil_sublist _))) rfl rfl rfl ?_
  refine ExD.take (i := 3) rfl (by kernel_rfl) (fr_load rfl rfl rfl rfl (CellO.blk (i := 0) rfl rfl)) ((List.Sublist.cons_cons _ (List.nil_sublist _))) rfl rfl rfl ?_
  refine ExD.take (i := 4) rfl (by kernel_rfl) (fr_sliceData rfl rfl hc0) ((List.Sublist.cons_cons _ (List.nil_sublist _))) rfl rfl rfl ?_
  refine ExD.take (i := 5) rfl (by kernel_rfl) (pureVal_ok rfl) ((List.Sublist.cons_cons _ (List.nil_sublist _))) rfl rfl rfl ?_
  refine ExD.take (i := 6) rfl (by kernel_rfl) (pureVal_ok rfl) ((List.Sublist.cons_cons _ (List.nil_sublist _))) rfl rfl rfl ?_
  refine ExD.take (i := 7) rfl (by kernel_rfl) (pureVal_ok rfl) ((List.Sublist.cons_cons _ (List.nil_sublist _))) rfl rfl rfl ?_
  refine ExD.take (i := 8) rfl (by kernel_rfl) (fr_load rfl rfl rfl rfl (CellO.blk (i := 0) rfl rfl)) ((List.Sublist.cons_cons _ (List.nil_sublist _))) rfl rfl rfl ?_
  refine ExD.take (i := 9) rfl (by kernel_rfl) (pureVal_ok rfl) ((List.Sublist.cons_cons _ (List.nil_sublist _))) rfl rfl rfl ?_
  refine ExD.op (i := 10) rfl (by kernel_rfl) rfl (op_unsafeString (i := 1) (l := xs) rfl rfl rfl rfl rfl rfl rfl rfl (by omega) rfl rfl ⟨(List.Sublist.cons_cons _ (List.nil_sublist _)), ?_⟩)
  refine ExD.take (i := 11) rfl (by kernel_rfl) (pureVal_ok rfl) ((List.Sublist.cons_cons _ (List.nil_sublist _))) rfl rfl rfl ?_
  refine ExD.done (by kernel_rfl) ?_
  refine Ex.ret ?_
  refine MutQ.mk () rfl (.tmp rfl .nil) (rfl) 1 [] (rfl) rfl (trivial)
theorem c_String (b : Nat) (u : Bool) (xs : List UInt8) (A : Option Addr) (c : Nat) (h0 : xs = [] → A = none ∧ c = 0) : Mut Tryd.prog 54 [.pointer (some ⟨b, 0, none⟩)] [.blk b [bp b u, .slice A xs.length c] 91, .row (.slice A xs.length c) 5 1 xs.length (xs.flatMap eU)] (fun _ _ _ => True) (fun _ : Unit => sv xs) (fun _ => []) (fun _ => True) := by
  rcases Nat.eq_zero_or_pos xs.length with h | h
  · obtain rfl := List.eq_nil_of_length_eq_zero h
    obtain ⟨rfl, rfl⟩ := h0 rfl
    exact ⟨(c_String_0 b u).1, fun base w0 F w hf hh => (c_String_0 b u).2 base w0 F w hf (hh.sub (by exact List.Sublist.cons_cons _ (List.Sublist.cons _ (List.Sublist.refl _))))⟩
  · exact c_String_1 b u xs A c h
end Go.Proofs.YtejedjgajcjejaaDoor

/- What these functions of the program hand back, each proved by walking its operations. -/
set_option linter.unusedVariables false
set_option linter.unusedSimpArgs false
set_option maxRecDepth 4000
namespace Go.Proofs.YtejedjgajcjejaaDoor
open Go Go.Sx Go.RowKit Go.W Go.Proofs
attribute [local irreducible] Ex ExL ExD Op1 Free RetQ MutQ Reads CellO SegO LoadsAs
theorem e_32 : Enters Tryd.prog 32 := Enters.of Tryd.func32 rfl
theorem c_iTotalsText (l : List VP) (Al : Option Addr) (cl : Nat) (hll : l.length ≤ maxLen) : Ret Tryd.prog 32 [.slice Al l.length cl] (fun w => Rd w Al (l.flatMap encP) ∧ TabO Tryd.prog w) (fun x : Unit => sv (totTx l)) (fun x => []) (fun x => True) := by
  refine Ret.of e_32 Tryd.func32 rfl Tryd.ntmps32 rfl rfl (fun w hpre => ?_)
  have hl := hpre.1.base
  have htab := hpre.2
  have hm0 : maxLen = 9223372036854775807 := rfl
  refine Ex.regSeq (ExL.pures 1 rfl ?_)
  refine ExL.nil ?_
  refine Ex.seq ?_
  refine Ex.regSeq (ExL.pures 1 rfl ?_)
  refine ExL.op rfl (op_ret rfl rfl rfl (c_ValidTotals l _ _ (by omega)) (Reads.get (Reads.old hl)) rfl rfl (fun x1 hx1 => ?_))
  refine ExL.pures 1 rfl ?_
  refine ExL.nil ?_
  refine Ex.cond rfl (fun hb2 => ?_) (fun hb2 => ?_)
  · replace hb2 := nb_t hb2
    refine Ex.regSeq (ExL.pures 1 rfl ?_)
    refine ExL.nil ?_
    refine Ex.ret ?_
    refine RetQ.mk () rfl (.tmp rfl .nil) (tS (by first | exact (totTx_f (by assumption)).symm | exact hlast)) [] (rfl) rfl (trivial)
  · replace hb2 := nb_f hb2
    refine Ex.skip ?_
    refine Ex.regSeq (ExL.pures 0 rfl ?_)
    refine ExL.free (fr_build rfl rfl rfl rfl) rfl rfl rfl ?_
    refine ExL.op rfl (op_alloc rfl rfl rfl rfl rfl (fun b3 => ?_))
    refine ExL.op rfl (op_storeC (i := 0) rfl rfl rfl rfl rfl rfl rfl rfl rfl rfl ?_)
    refine ExL.nil ?_
    refine Ex.seq ?_
    refine Ex.nilRow 5 1 ?_
    refine Ex.regSeq (ExL.pures 3 rfl ?_)
    refine ExL.nil ?_
    refine Ex.block ?_
    refine Ex.loopK (X := BdS) (fun q => [(12, .int .i64 q.k)]) (fun q => [.blk b3 [bp b3 q.u, .slice q.A (tText l q.k).length q.c] 91, .row (.slice q.A (tText l q.k).length q.c) 5 1 (tText l q.k).length ((tText l q.k).flatMap eU)]) (fun q => q.k ≤ l.length ∧ (tText l q.k = [] → q.A = none ∧ q.c = 0)) (fun q => l.length - q.k) (⟨0, false, none, 0⟩ : BdS) [(2, _), (3, _), (10, _), (11, _)] [] 2 [1, 0] ⟨rfl, trivial⟩ ⟨rfl, rfl, rfl, rfl, trivial⟩ (rfl) rfl ⟨Nat.zero_le _, fun _ => ⟨rfl, rfl⟩⟩ (fun q hI => ?_)
    have hI : q.k ≤ l.length ∧ (tText l q.k = [] → q.A = none ∧ q.c = 0) := hI
    obtain ⟨hkq, hnil⟩ := hI
    refine Ex.regSeq (ExL.pures 0 rfl ?_)
    refine ExL.lss rfl rfl rfl rfl rfl rfl (fun h4 => ?_) (fun h4 => ?_)
    · refine ExL.nil ?_
      refine Ex.seq ?_
      refine Ex.cond_t rfl ?_
      refine Ex.skip ?_
      refine Ex.seq ?_
      refine Ex.block ?_
      have hkl : q.k < l.length := by omega
      have hT := tot (by assumption)
      have hdy := hT.day q.k (by omega)
      have hct := hT.cnt q.k (by omega)
      have hi1 := itoa_le (n := (l.getD q.k zP).a) (by omega)
      have hi2 := itoa_le (n := (l.getD q.k zP).b) (by omega)
      have htx := tText_le hT (k := q.k) (by omega)
      refine Ex.regSeq (ExL.pures 0 rfl ?_)
      refine ExL.free (fr_indexAddrF (Reads.old hl) encP_len rfl rfl rfl rfl rfl rfl (by omega)) rfl rfl rfl ?_
      refine ExL.free (fr_loadN rfl rfl rfl rfl rfl (by first | exact segN (Reads.old hl) encP_len rfl zP (by omega) | exact segF (Reads.old hl) encP_len rfl zP (by omega))) rfl rfl rfl ?_
      refine ExL.op rfl (op_alloc rfl rfl rfl rfl rfl (fun b5 => ?_))
      refine ExL.op rfl (op_storeC (i := 0) rfl rfl rfl rfl rfl rfl rfl rfl rfl rfl ?_)
      refine ExL.nil ?_
      refine Ex.drawI [0] rfl rfl ?_
      refine ExD.take (i := 0) rfl (by kernel_rfl) (pureVal_ok rfl) ((List.Sublist.cons_cons _ (List.nil_sublist _))) rfl rfl rfl ?_
      refine ExD.take (i := 1) rfl (by kernel_rfl) (fr_load rfl rfl rfl rfl (CellO.blk (i := 0) rfl rfl)) ((List.Sublist.cons_cons _ (List.nil_sublist _))) rfl rfl rfl ?_
      refine ExD.take (i := 4) rfl (by kernel_rfl) (pureVal_ok rfl) ((List.Sublist.cons_cons _ (List.nil_sublist _))) rfl rfl rfl ?_
      refine ExD.take (i := 5) rfl (by kernel_rfl) (fr_load rfl rfl rfl rfl (CellO.blk (i := 0) rfl rfl)) ((List.Sublist.cons_cons _ (List.nil_sublist _))) rfl rfl rfl ?_
      refine ExD.op (i := 2) rfl (by kernel_rfl) rfl (op_ret rfl rfl rfl (c_decimal (l.getD q.k zP).a (by omega)) (fun w hw => TabO.keep htab hw) rfl rfl (fun x6 hx6 => ⟨(List.Sublist.cons_cons _ (List.nil_sublist _)), ?_⟩))
      refine ExD.take (i := 3) rfl (by kernel_rfl) (fr_addS (l := Lib.itoa ((l.getD q.k zP).a)) (r := [32]) rfl rfl rfl (by first | omega | (simp only [List.length_append, List.length_cons, List.length_nil]; omega))) ((List.Sublist.cons_cons _ (List.nil_sublist _))) rfl rfl rfl ?_
      refine ExD.op (i := 6) rfl (by kernel_rfl) rfl (op_ret rfl rfl rfl (c_decimal (l.getD q.k zP).b (by omega)) (fun w hw => TabO.keep htab hw) rfl rfl (fun x7 hx7 => ⟨(List.Sublist.cons_cons _ (List.nil_sublist _)), ?_⟩))
      refine ExD.take (i := 7) rfl (by kernel_rfl) (fr_addS (l := (Lib.itoa ((l.getD q.k zP).a) ++ [32])) (r := Lib.itoa ((l.getD q.k zP).b)) rfl rfl rfl (by first | omega | (simp only [List.length_append, List.length_cons, List.length_nil]; omega))) ((List.Sublist.cons_cons _ (List.nil_sublist _))) rfl rfl rfl ?_
      refine ExD.take (i := 8) rfl (by kernel_rfl) (fr_addS (l := ((Lib.itoa ((l.getD q.k zP).a) ++ [32]) ++ Lib.itoa ((l.getD q.k zP).b))) (r := [10]) rfl rfl rfl (by first | omega | (simp only [List.length_append, List.length_cons, List.length_nil]; omega))) ((List.Sublist.cons_cons _ (List.nil_sublist _))) rfl rfl rfl ?_
      refine ExD.op (i := 9) rfl (by kernel_rfl) rfl (op_mut rfl rfl rfl (c_WriteString b3 q.u (tText l q.k) _ _ (((Lib.itoa ((l.getD q.k zP).a) ++ [32]) ++ Lib.itoa ((l.getD q.k zP).b)) ++ [10]) (by first | omega | (simp only [List.length_append, List.length_cons, List.length_nil]; omega))) (perm_lt (i := 1) (j := 2) rfl rfl rfl) (trivial) rfl rfl (fun x8 hx8 => ⟨(List.Sublist.cons _ (List.Sublist.cons _ (List.Sublist.refl _))), ?_⟩))
      refine ExD.done (by kernel_rfl) ?_
      refine Ex.region (ExL.pures 0 rfl ?_)
      refine ExL.free (by first | exact fr_add64 rfl rfl rfl (by omega) | exact fr_add rfl rfl rfl) rfl rfl rfl ?_
      refine ExL.pures 1 rfl ?_
      refine ExL.nil ?_
      refine Hand.mk (⟨q.k + 1, true, x8.1, x8.2⟩ : BdS) 3 [0, 1] ⟨rfl, trivial⟩ ⟨rfl, rfl, rfl, rfl, trivial⟩ (rfl) rfl (⟨by dsimp only; omega, fun h => absurd h (tText_pos (k := q.k + 1) (by omega))⟩) (by dsimp only; omega)
    · refine ExL.nil ?_
      refine Ex.seq ?_
      refine Ex.cond_f rfl ?_
      refine Ex.exit ?_
      have hkn : q.k = l.length := by omega
      have hlast : tText l q.k = totTx l := by rw [hkn]; exact (totTx_t (by assumption)).symm
      refine Ex.regSeq (ExL.pures 0 rfl ?_)
      refine ExL.op rfl (op_mut rfl rfl rfl (c_String b3 q.u (tText l q.k) _ _ (by assumption)) (perm_lt (i := 0) (j := 1) rfl rfl rfl) (trivial) rfl rfl (fun x9 hx9 => ?_))
      refine ExL.pures 1 rfl ?_
      refine ExL.nil ?_
      refine Ex.ret ?_
      refine RetQ.mk () rfl (.tmp rfl .nil) (tS (by first | exact (totTx_f (by assumption)).symm | exact hlast)) [] (rfl) rfl (trivial)
end Go.Proofs.YtejedjgajcjejaaDoor

/- What these functions of the program hand back, each proved by walking its operations. -/
set_option linter.unusedVariables false
set_option linter.unusedSimpArgs false
set_option maxRecDepth 4000
namespace Go.Proofs.YtejedjgajcjejaaDoor
open Go Go.Sx Go.RowKit Go.W Go.Proofs
attribute [local irreducible] Ex ExL ExD Op1 Free RetQ MutQ Reads CellO SegO LoadsAs
theorem e_7 : Enters Tryd.prog 7 := Enters.of Tryd.func7 rfl
theorem c_sReadTotals (t : List UInt8) (hl : t.length ≤ 1048576) : Ret Tryd.prog 7 [sv t] (fun w => True) (fun x : RdS VP => .tuple #[.slice x.A x.l.length x.cap, .int .i64 x.code]) (fun x => [.row (.slice x.A x.l.length x.cap) 56 2 x.l.length (x.l.flatMap encP)]) (fun x => TotRd t x) := by
  refine Ret.of e_7 Tryd.func7 rfl Tryd.ntmps7 rfl rfl (fun w hpre => ?_)
  have hpp := splitA_pos 10 t
  have hpn := splitA_len 10 t []
  have hm0 : maxLen = 9223372036854775807 := rfl
  refine Ex.regSeq (ExL.pures 2 rfl ?_)
  refine ExL.nil ?_
  refine Ex.regSeq (ExL.pures 1 rfl ?_)
  refine ExL.op rfl (op_ret rfl rfl rfl (c_l01Split t 10 10 (by decide) (by omega)) (fun _ _ => trivial) rfl rfl (fun x1 hx1 => ?_))
  refine ExL.pures 1 rfl ?_
  refine ExL.nil ?_
  refine Ex.regSeq (ExL.pures 0 rfl ?_)
  refine ExL.op rfl (op_buildSlice (sz := 2) rfl rfl rfl rfl rfl rfl rfl rfl (by decide) rfl rfl rfl (fun r2 => ?_))
  refine ExL.pures 1 rfl ?_
  refine ExL.nil ?_
  refine Ex.regSeq (ExL.pures 3 rfl ?_)
  refine ExL.free (by first | exact fr_sub64 rfl rfl rfl (by omega) | exact fr_sub rfl rfl rfl) rfl rfl rfl ?_
  refine ExL.free (fr_indexAddrR (sz := 1) 1 rfl rfl rfl rfl rfl rfl (by omega)) rfl rfl rfl ?_
  refine ExL.free (fr_load rfl rfl rfl rfl (cellJ (i := ((splitA 10 [] t).length - 1)) (((splitA 10 [] t).length - 1)) (Reads.row (i := 1) rfl) eSt_len ([] : List UInt8) 0 rfl (by omega) (by omega) rfl)) rfl rfl rfl ?_
  refine ExL.free (fr_eqlS (l := ((splitA 10 [] t).getD ((splitA 10 [] t).length - 1) [])) (r := []) rfl rfl rfl) rfl rfl rfl ?_
  refine ExL.pures 1 rfl ?_
  refine ExL.nil ?_
  refine Ex.seq ?_
  refine Ex.regSeq (ExL.pures 1 rfl ?_)
  refine ExL.nil ?_
  refine Ex.block ?_
  refine Ex.loopK (X := TtS VP) (fun q => [(5, .slice q.A q.l.length q.cap), (6, .bool q.ok), (7, .int .i64 q.k)]) (fun q => [.row (.slice q.A q.l.length q.cap) 56 2 q.l.length (q.l.flatMap encP)]) (fun q => q.k + 1 ≤ (splitA 10 [] t).length ∧ q.l.length = q.k ∧ (q.ok = true → (splitA 10 [] t).getD ((splitA 10 [] t).length - 1) [] = [] ∧ LinesTo t q.l q.k) ∧ (q.ok = false → totRd t = none)) (fun q => (splitA 10 [] t).length - q.k) (⟨0, [], decide ((splitA 10 [] t).getD ((splitA 10 [] t).length - 1) [] = []), (some ⟨r2, 0, none⟩), 0⟩ : TtS VP) [(4, _)] [_] 2 [0, 1] ⟨rfl, rfl, rfl, trivial⟩ ⟨rfl, trivial⟩ (rfl) rfl ⟨hpp, rfl, fun h => ⟨of_decide_eq_true h, LinesTo.nil t⟩, fun h => rd_open (n := (splitA 10 [] t).length - 1) (by omega) (of_decide_eq_false h)⟩ (fun q hI => ?_)
  have hI : q.k + 1 ≤ (splitA 10 [] t).length ∧ q.l.length = q.k ∧ (q.ok = true → (splitA 10 [] t).getD ((splitA 10 [] t).length - 1) [] = [] ∧ LinesTo t q.l q.k) ∧ (q.ok = false → totRd t = none) := hI
  obtain ⟨hqk, hql, hqy, hqn⟩ := hI
  refine Ex.seq ?_
  refine Ex.regSeq (ExL.pures 1 rfl ?_)
  refine ExL.free (by first | exact fr_add64 rfl rfl rfl (by omega) | exact fr_add rfl rfl rfl) rfl rfl rfl ?_
  refine ExL.pures 2 rfl ?_
  refine ExL.lss rfl rfl rfl rfl rfl rfl (fun h3 => ?_) (fun h3 => ?_)
  · refine ExL.pures 3 rfl ?_
    refine ExL.nil ?_
    refine Ex.cond rfl (fun hb4 => ?_) (fun hb4 => ?_)
    · refine Ex.skip ?_
      refine Ex.seq ?_
      refine Ex.block ?_
      have hpl := piece_le 10 t q.k
      refine Ex.regSeq (ExL.pures 2 rfl ?_)
      refine ExL.free (fr_indexAddrR (sz := 1) 1 rfl rfl rfl rfl rfl rfl (by omega)) rfl rfl rfl ?_
      refine ExL.free (fr_load rfl rfl rfl rfl (by first | exact cellN (Reads.row (i := 1) rfl) eSt_len ([] : List UInt8) 0 rfl (by omega) rfl | exact cellF (Reads.row (i := 1) rfl) eSt_len ([] : List UInt8) 0 rfl (by omega) rfl)) rfl rfl rfl ?_
      refine ExL.op rfl (op_ret rfl rfl rfl (c_l01Split ((splitA 10 [] t).getD q.k []) 32 32 (by decide) (by omega)) (fun _ _ => trivial) rfl rfl (fun x5 hx5 => ?_))
      refine ExL.pures 1 rfl ?_
      refine ExL.nil ?_
      refine Ex.seq ?_
      refine Ex.regSeq (ExL.pures 2 rfl ?_)
      refine ExL.neq rfl rfl rfl rfl rfl rfl (fun h6 => ?_) (fun h6 => ?_)
      · refine ExL.nil ?_
        refine Ex.cond_t rfl ?_
        refine Ex.regSeq (ExL.pures 0 rfl ?_)
        refine ExL.op rfl (op_buildSlice (sz := 2) rfl rfl rfl rfl rfl rfl rfl rfl (by decide) rfl rfl rfl (fun r7 => ?_))
        refine ExL.pures 2 rfl ?_
        refine ExL.nil ?_
        refine Ex.ret ?_
        refine RetQ.mk ⟨[], 5, (some ⟨r7, 0, none⟩), 0⟩ rfl (.tmp rfl (.tmp rfl .nil)) (rfl) [0] (rfl) rfl (.inr ⟨rfl, rfl, by first | exact tr_line (j := q.k) (by omega) (line_2 (by omega)) | exact hqn (by assumption) | (rw [tr_yes (n := q.k) (hend (by assumption)).1.symm (hend (by assumption)).2 (hqy (by assumption)).2]; exact if_neg (fun h => by have h9 := (by assumption : validTot q.l = false); rw [h9] at h; cases h))⟩)
      · refine ExL.nil ?_
        refine Ex.cond_f rfl ?_
        refine Ex.skip ?_
        have hp0 := piece_le 32 ((splitA 10 [] t).getD q.k []) 0
        have hp1 := piece_le 32 ((splitA 10 [] t).getD q.k []) 1
        refine Ex.regSeq (ExL.pures 1 rfl ?_)
        refine ExL.free (fr_indexAddrR (sz := 1) 0 rfl rfl rfl rfl rfl rfl (by omega)) rfl rfl rfl ?_
        refine ExL.free (fr_load rfl rfl rfl rfl (cellJ (i := 0) (0) (Reads.row (i := 0) rfl) eSt_len ([] : List UInt8) 0 rfl (by omega) (by omega) rfl)) rfl rfl rfl ?_
        refine ExL.op rfl (op_ret rfl rfl rfl (c_l06Number ((splitA 32 [] ((splitA 10 [] t).getD q.k [])).getD 0 []) (by omega)) (fun _ _ => trivial) rfl rfl (fun x8 hx8 => ?_))
        refine ExL.pures 5 rfl ?_
        refine ExL.nil ?_
        refine Ex.regSeq (ExL.pures 1 rfl ?_)
        refine ExL.free (fr_indexAddrR (sz := 1) 0 rfl rfl rfl rfl rfl rfl (by omega)) rfl rfl rfl ?_
        refine ExL.free (fr_load rfl rfl rfl rfl (cellJ (i := 1) (1) (Reads.row (i := 0) rfl) eSt_len ([] : List UInt8) 0 rfl (by omega) (by omega) rfl)) rfl rfl rfl ?_
        refine ExL.op rfl (op_ret rfl rfl rfl (c_l06Number ((splitA 32 [] ((splitA 10 [] t).getD q.k [])).getD 1 []) (by omega)) (fun _ _ => trivial) rfl rfl (fun x9 hx9 => ?_))
        refine ExL.pures 5 rfl ?_
        refine ExL.nil ?_
        refine Ex.regSeq (ExL.pures 2 rfl ?_)
        refine ExL.bool (d := 57) rfl (fun hb10 => ?_) (fun hb10 => ?_)
        · refine ExL.pures 3 rfl ?_
          refine ExL.nil ?_
          refine Ex.region (ExL.pures 3 rfl ?_)
          refine ExL.free (fr_build rfl rfl rfl rfl) rfl rfl rfl ?_
          refine ExL.op rfl (op_buildSlice (sz := 2) rfl rfl rfl rfl rfl rfl rfl rfl (by decide) rfl rfl rfl (fun r11 => ?_))
          refine ExL.op rfl (op_append (sz := 2) (bytes := 16) (i := 2) rfl rfl rfl rfl (Reads.row (i := 0) rfl) rfl (fun e => nomatch e) rfl rfl rfl rfl (by constructor <;> first | omega | (unfold maxLen; omega)) rfl rfl (fun A12 cA12 => ?_))
          refine ExL.pures 1 rfl ?_
          refine ExL.nil ?_
          refine Ex.region (ExL.pures 1 rfl ?_)
          refine ExL.free (by first | exact fr_add64 rfl rfl rfl (by omega) | exact fr_add rfl rfl rfl) rfl rfl rfl ?_
          refine ExL.pures 1 rfl ?_
          refine ExL.nil ?_
          refine Hand.mk (⟨q.k + 1, q.l ++ [⟨(numR 13 ((splitA 32 [] ((splitA 10 [] t).getD q.k [])).getD 0 [])).1, (numR 13 ((splitA 32 [] ((splitA 10 [] t).getD q.k [])).getD 1 [])).1⟩], (numR 13 ((splitA 32 [] ((splitA 10 [] t).getD q.k [])).getD 1 [])).2, A12, cA12⟩ : TtS VP) 4 [2, 3] ⟨(by rw [List.length_append]; rfl), rfl, rfl, trivial⟩ ⟨rfl, trivial⟩ (by rw [List.length_append, List.flatMap_append]; rfl) rfl (⟨by dsimp only; omega, by rw [List.length_append, hql]; rfl, fun h => ⟨(hqy (by assumption)).1, (hqy (by assumption)).2.snoc (by rw [line_y (by omega)]; exact if_pos ⟨by assumption, h⟩)⟩, fun h => tr_line (j := q.k) (by omega) (by rw [line_y (by omega)]; exact if_neg (fun h2 => by have h4 := h2.2; rw [show (numR 13 ((splitA 32 [] ((splitA 10 [] t).getD q.k [])).getD 1 [])).2 = false from h] at h4; cases h4))⟩) (by dsimp only; omega)
        · refine ExL.pures 3 rfl ?_
          refine ExL.nil ?_
          refine Ex.region (ExL.pures 3 rfl ?_)
          refine ExL.free (fr_build rfl rfl rfl rfl) rfl rfl rfl ?_
          refine ExL.op rfl (op_buildSlice (sz := 2) rfl rfl rfl rfl rfl rfl rfl rfl (by decide) rfl rfl rfl (fun r14 => ?_))
          refine ExL.op rfl (op_append (sz := 2) (bytes := 16) (i := 2) rfl rfl rfl rfl (Reads.row (i := 0) rfl) rfl (fun e => nomatch e) rfl rfl rfl rfl (by constructor <;> first | omega | (unfold maxLen; omega)) rfl rfl (fun A15 cA15 => ?_))
          refine ExL.pures 1 rfl ?_
          refine ExL.nil ?_
          refine Ex.region (ExL.pures 1 rfl ?_)
          refine ExL.free (by first | exact fr_add64 rfl rfl rfl (by omega) | exact fr_add rfl rfl rfl) rfl rfl rfl ?_
          refine ExL.pures 1 rfl ?_
          refine ExL.nil ?_
          refine Hand.mk (⟨q.k + 1, q.l ++ [⟨(numR 13 ((splitA 32 [] ((splitA 10 [] t).getD q.k [])).getD 0 [])).1, (numR 13 ((splitA 32 [] ((splitA 10 [] t).getD q.k [])).getD 1 [])).1⟩], false, A15, cA15⟩ : TtS VP) 4 [2, 3] ⟨(by rw [List.length_append]; rfl), rfl, rfl, trivial⟩ ⟨rfl, trivial⟩ (by rw [List.length_append, List.flatMap_append]; rfl) rfl (⟨by dsimp only; omega, by rw [List.length_append, hql]; rfl, fun h => (by cases h), fun _ => tr_line (j := q.k) (by omega) (by rw [line_y (by omega)]; exact if_neg (fun h2 => by have h3 := (by assumption : (numR 13 ((splitA 32 [] ((splitA 10 [] t).getD q.k [])).getD 0 [])).2 = false); have h4 := h2.1; rw [h3] at h4; cases h4))⟩) (by dsimp only; omega)
    · refine Ex.exit ?_
      have hend : q.ok = true → q.k + 1 = (splitA 10 [] t).length ∧ (splitA 10 [] t).getD q.k [] = [] := fun h => (fun h9 : q.k + 1 = (splitA 10 [] t).length => ⟨h9, (show (splitA 10 [] t).getD q.k [] = [] by rw [show q.k = (splitA 10 [] t).length - 1 by omega]; exact (hqy h).1)⟩) (by first | omega | simp_all)
      refine Ex.seq ?_
      refine Ex.regSeq (ExL.pures 3 rfl ?_)
      refine ExL.bool (d := 68) rfl (fun hb17 => ?_) (fun hb17 => ?_)
      · replace hb17 := nb_t hb17
        refine ExL.pures 4 rfl ?_
        refine ExL.nil ?_
        refine Ex.cond_t rfl ?_
        refine Ex.regSeq (ExL.pures 0 rfl ?_)
        refine ExL.op rfl (op_buildSlice (sz := 2) rfl rfl rfl rfl rfl rfl rfl rfl (by decide) rfl rfl rfl (fun r18 => ?_))
        refine ExL.pures 2 rfl ?_
        refine ExL.nil ?_
        refine Ex.ret ?_
        refine RetQ.mk ⟨[], 5, (some ⟨r18, 0, none⟩), 0⟩ rfl (.tmp rfl (.tmp rfl .nil)) (rfl) [0] (rfl) rfl (.inr ⟨rfl, rfl, by first | exact tr_line (j := q.k) (by omega) (line_2 (by omega)) | exact hqn (by assumption) | (rw [tr_yes (n := q.k) (hend (by assumption)).1.symm (hend (by assumption)).2 (hqy (by assumption)).2]; exact if_neg (fun h => by have h9 := (by assumption : validTot q.l = false); rw [h9] at h; cases h))⟩)
      · replace hb17 := nb_f hb17
        refine ExL.pures 1 rfl ?_
        refine ExL.op rfl (op_ret rfl rfl rfl (c_l06Totals q.l _ _ (by omega)) (Reads.get (Reads.row (i := 0) rfl)) rfl rfl (fun x19 hx19 => ?_))
        refine ExL.pures 2 rfl ?_
        refine ExL.nil ?_
        refine Ex.cond rfl (fun hb20 => ?_) (fun hb20 => ?_)
        · replace hb20 := nb_t hb20
          refine Ex.regSeq (ExL.pures 0 rfl ?_)
          refine ExL.op rfl (op_buildSlice (sz := 2) rfl rfl rfl rfl rfl rfl rfl rfl (by decide) rfl rfl rfl (fun r21 => ?_))
          refine ExL.pures 2 rfl ?_
          refine ExL.nil ?_
          refine Ex.ret ?_
          refine RetQ.mk ⟨[], 5, (some ⟨r21, 0, none⟩), 0⟩ rfl (.tmp rfl (.tmp rfl .nil)) (rfl) [0] (rfl) rfl (.inr ⟨rfl, rfl, by first | exact tr_line (j := q.k) (by omega) (line_2 (by omega)) | exact hqn (by assumption) | (rw [tr_yes (n := q.k) (hend (by assumption)).1.symm (hend (by assumption)).2 (hqy (by assumption)).2]; exact if_neg (fun h => by have h9 := (by assumption : validTot q.l = false); rw [h9] at h; cases h))⟩)
        · replace hb20 := nb_f hb20
          refine Ex.skip ?_
          refine Ex.regSeq (ExL.pures 3 rfl ?_)
          refine ExL.nil ?_
          refine Ex.ret ?_
          refine RetQ.mk ⟨q.l, 0, q.A, q.cap⟩ rfl (.tmp rfl (.tmp rfl .nil)) (rfl) [0] (rfl) rfl (.inl ⟨rfl, by rw [tr_yes (n := q.k) (hend (by assumption)).1.symm (hend (by assumption)).2 (hqy (by assumption)).2]; exact if_pos (by assumption)⟩)
  · refine ExL.pures 3 rfl ?_
    refine ExL.nil ?_
    refine Ex.cond_f rfl ?_
    refine Ex.exit ?_
    have hend : q.ok = true → q.k + 1 = (splitA 10 [] t).length ∧ (splitA 10 [] t).getD q.k [] = [] := fun h => (fun h9 : q.k + 1 = (splitA 10 [] t).length => ⟨h9, (show (splitA 10 [] t).getD q.k [] = [] by rw [show q.k = (splitA 10 [] t).length - 1 by omega]; exact (hqy h).1)⟩) (by first | omega | simp_all)
    refine Ex.seq ?_
    refine Ex.regSeq (ExL.pures 3 rfl ?_)
    refine ExL.bool (d := 68) rfl (fun hb22 => ?_) (fun hb22 => ?_)
    · replace hb22 := nb_t hb22
      refine ExL.pures 4 rfl ?_
      refine ExL.nil ?_
      refine Ex.cond_t rfl ?_
      refine Ex.regSeq (ExL.pures 0 rfl ?_)
      refine ExL.op rfl (op_buildSlice (sz := 2) rfl rfl rfl rfl rfl rfl rfl rfl (by decide) rfl rfl rfl (fun r23 => ?_))
      refine ExL.pures 2 rfl ?_
      refine ExL.nil ?_
      refine Ex.ret ?_
      refine RetQ.mk ⟨[], 5, (some ⟨r23, 0, none⟩), 0⟩ rfl (.tmp rfl (.tmp rfl .nil)) (rfl) [0] (rfl) rfl (.inr ⟨rfl, rfl, by first | exact tr_line (j := q.k) (by omega) (line_2 (by omega)) | exact hqn (by assumption) | (rw [tr_yes (n := q.k) (hend (by assumption)).1.symm (hend (by assumption)).2 (hqy (by assumption)).2]; exact if_neg (fun h => by have h9 := (by assumption : validTot q.l = false); rw [h9] at h; cases h))⟩)
    · replace hb22 := nb_f hb22
      refine ExL.pures 1 rfl ?_
      refine ExL.op rfl (op_ret rfl rfl rfl (c_l06Totals q.l _ _ (by omega)) (Reads.get (Reads.row (i := 0) rfl)) rfl rfl (fun x24 hx24 => ?_))
      refine ExL.pures 2 rfl ?_
      refine ExL.nil ?_
      refine Ex.cond rfl (fun hb25 => ?_) (fun hb25 => ?_)
      · replace hb25 := nb_t hb25
        refine Ex.regSeq (ExL.pures 0 rfl ?_)
        refine ExL.op rfl (op_buildSlice (sz := 2) rfl rfl rfl rfl rfl rfl rfl rfl (by decide) rfl rfl rfl (fun r26 => ?_))
        refine ExL.pures 2 rfl ?_
        refine ExL.nil ?_
        refine Ex.ret ?_
        refine RetQ.mk ⟨[], 5, (some ⟨r26, 0, none⟩), 0⟩ rfl (.tmp rfl (.tmp rfl .nil)) (rfl) [0] (rfl) rfl (.inr ⟨rfl, rfl, by first | exact tr_line (j := q.k) (by omega) (line_2 (by omega)) | exact hqn (by assumption) | (rw [tr_yes (n := q.k) (hend (by assumption)).1.symm (hend (by assumption)).2 (hqy (by assumption)).2]; exact if_neg (fun h => by have h9 := (by assumption : validTot q.l = false); rw [h9] at h; cases h))⟩)
      · replace hb25 := nb_f hb25
        refine Ex.skip ?_
        refine Ex.regSeq (ExL.pures 3 rfl ?_)
        refine ExL.nil ?_
        refine Ex.ret ?_
        refine RetQ.mk ⟨q.l, 0, q.A, q.cap⟩ rfl (.tmp rfl (.tmp rfl .nil)) (rfl) [0] (rfl) rfl (.inl ⟨rfl, by rw [tr_yes (n := q.k) (hend (by assumption)).1.symm (hend (by assumption)).2 (hqy (by assumption)).2]; exact if_pos (by assumption)⟩)
theorem e_8 : Enters Tryd.prog 8 := Enters.of Tryd.func8 rfl
theorem c_iReadTotals (t : List UInt8) (hl : t.length ≤ 1048576) : Ret Tryd.prog 8 [sv t] (fun w => RdO 0 1 2 w ∧ TabO Tryd.prog w) (fun x : RdS VP => .tuple #[.slice x.A x.l.length x.cap, .int .i64 x.code]) (fun x => [.row (.slice x.A x.l.length x.cap) 56 2 x.l.length (x.l.flatMap encP)]) (fun x => TotRd t x) := by
  refine Ret.of e_8 Tryd.func8 rfl Tryd.ntmps8 rfl rfl (fun w hpre => ?_)
  have hrd := hpre.1
  have htab := hpre.2
  have hpp := splitA_pos 10 t
  have hpn := splitA_len 10 t []
  have hm0 : maxLen = 9223372036854775807 := rfl
  refine Ex.regSeq (ExL.pures 2 rfl ?_)
  refine ExL.nil ?_
  refine Ex.regSeq (ExL.pures 1 rfl ?_)
  refine ExL.op rfl (op_ret rfl rfl rfl (c_linesOf t (by omega)) (fun w hw => RdO.keep hrd hw) rfl rfl (fun x1 hx1 => ?_))
  refine ExL.pures 5 rfl ?_
  refine ExL.nil ?_
  refine Ex.seq ?_
  refine Ex.regSeq (ExL.pures 3 rfl ?_)
  refine ExL.bool (d := 23) rfl (fun hb2 => ?_) (fun hb2 => ?_)
  · replace hb2 := nd_t hb2
    refine ExL.pures 4 rfl ?_
    refine ExL.nil ?_
    refine Ex.cond_t rfl ?_
    refine Ex.regSeq (ExL.pures 2 rfl ?_)
    refine ExL.nil ?_
    refine Ex.nilRow 56 2 ?_
    refine Ex.ret ?_
    refine RetQ.mk ⟨[], 5, none, 0⟩ rfl (.tmp rfl (.tmp rfl .nil)) (rfl) [0] (rfl) rfl (.inr ⟨rfl, rfl, by first | exact rd_open (n := (splitA 10 [] t).length - 1) (by omega) (by assumption) | exact rd_60 (by omega) | exact rd_line_no (by omega) hx1 hx1 (.inl (by assumption)) | exact rd_line_no (by omega) hx1 hx1 (.inr (by assumption)) | exact rd_no hqc (by omega) (fun h => by simp_all)⟩)
  · replace hb2 := nd_f hb2
    refine ExL.pures 2 rfl ?_
    refine ExL.gtr rfl rfl rfl rfl rfl rfl (fun h3 => ?_) (fun h3 => ?_)
    · refine ExL.pures 1 rfl ?_
      refine ExL.nil ?_
      refine Ex.cond_t rfl ?_
      refine Ex.regSeq (ExL.pures 2 rfl ?_)
      refine ExL.nil ?_
      refine Ex.nilRow 56 2 ?_
      refine Ex.ret ?_
      refine RetQ.mk ⟨[], 5, none, 0⟩ rfl (.tmp rfl (.tmp rfl .nil)) (rfl) [0] (rfl) rfl (.inr ⟨rfl, rfl, by first | exact rd_open (n := (splitA 10 [] t).length - 1) (by omega) (by assumption) | exact rd_60 (by omega) | exact rd_line_no (by omega) hx1 hx1 (.inl (by assumption)) | exact rd_line_no (by omega) hx1 hx1 (.inr (by assumption)) | exact rd_no hqc (by omega) (fun h => by simp_all)⟩)
    · refine ExL.pures 1 rfl ?_
      refine ExL.nil ?_
      refine Ex.cond_f rfl ?_
      refine Ex.skip ?_
      refine Ex.regSeq (ExL.pures 0 rfl ?_)
      refine ExL.op rfl (op_buildSlice (sz := 2) rfl rfl rfl rfl rfl rfl rfl rfl (by decide) rfl rfl rfl (fun r4 => ?_))
      refine ExL.pures 1 rfl ?_
      refine ExL.nil ?_
      refine Ex.seq ?_
      refine Ex.regSeq (ExL.pures 3 rfl ?_)
      refine ExL.nil ?_
      refine Ex.block ?_
      refine Ex.loopK (X := TtS VP) (fun q => [(6, .slice q.A q.l.length q.cap), (31, .int .i64 q.k)]) (fun q => [.row (.slice q.A q.l.length q.cap) 56 2 q.l.length (q.l.flatMap encP)]) (fun q => q.k + 1 ≤ (splitA 10 [] t).length ∧ q.l.length = q.k ∧ CutsOf t q.l) (fun q => (splitA 10 [] t).length - q.k) (⟨0, [], true, (some ⟨r4, 0, none⟩), 0⟩ : TtS VP) [(0, _), (29, _), (30, _)] [_] 2 [0, 1] ⟨rfl, rfl, trivial⟩ ⟨rfl, rfl, rfl, trivial⟩ (rfl) rfl ⟨hpp, rfl, fun i hi => by simp at hi⟩ (fun q hI => ?_)
      have hI : q.k + 1 ≤ (splitA 10 [] t).length ∧ q.l.length = q.k ∧ CutsOf t q.l := hI
      obtain ⟨hqk, hql, hqc⟩ := hI
      refine Ex.regSeq (ExL.pures 0 rfl ?_)
      refine ExL.lss rfl rfl rfl rfl rfl rfl (fun h5 => ?_) (fun h5 => ?_)
      · refine ExL.nil ?_
        refine Ex.seq ?_
        refine Ex.cond_t rfl ?_
        refine Ex.skip ?_
        refine Ex.seq ?_
        refine Ex.block ?_
        have hpl := piece_le 10 t q.k
        have hcl := cut_le ((splitA 10 [] t).getD q.k []) 32
        have hcl1 := hcl.1
        have hcl2 := hcl.2
        refine Ex.regSeq (ExL.pures 0 rfl ?_)
        refine ExL.free (fr_indexAddr (sz := 1) rfl rfl rfl rfl rfl rfl (by omega)) rfl rfl rfl ?_
        refine ExL.free (fr_load rfl rfl rfl rfl (by first | exact cellN (Reads.row (i := 1) rfl) eSt_len ([] : List UInt8) 0 rfl (by omega) rfl | exact cellF (Reads.row (i := 1) rfl) eSt_len ([] : List UInt8) 0 rfl (by omega) rfl)) rfl rfl rfl ?_
        refine ExL.pures 1 rfl ?_
        refine ExL.nil ?_
        refine Ex.regSeq (ExL.pures 1 rfl ?_)
        refine ExL.op rfl (op_ret rfl rfl rfl (c_Cut ((splitA 10 [] t).getD q.k []) 32 (by omega)) (fun w hw => RdO.keep hrd hw) rfl rfl (fun x6 hx6 => ?_))
        refine ExL.pures 7 rfl ?_
        refine ExL.nil ?_
        refine Ex.regSeq (ExL.pures 1 rfl ?_)
        refine ExL.op rfl (op_ret rfl rfl rfl (c_readDecimal (Lib.cut ((splitA 10 [] t).getD q.k []) [32]).1 (by omega)) (fun w hw => ⟨RdO.keep hrd hw, TabO.keep htab hw⟩) rfl rfl (fun x7 hx7 => ?_))
        have hbx7 : -9223372036854775808 ≤ x7.1 ∧ x7.1 ≤ 9223372036854775807 := hx7.1
        refine ExL.pures 5 rfl ?_
        refine ExL.nil ?_
        refine Ex.regSeq (ExL.pures 1 rfl ?_)
        refine ExL.op rfl (op_ret rfl rfl rfl (c_readDecimal (Lib.cut ((splitA 10 [] t).getD q.k []) [32]).2.1 (by omega)) (fun w hw => ⟨RdO.keep hrd hw, TabO.keep htab hw⟩) rfl rfl (fun x8 hx8 => ?_))
        have hbx8 : -9223372036854775808 ≤ x8.1 ∧ x8.1 ≤ 9223372036854775807 := hx8.1
        refine ExL.pures 5 rfl ?_
        refine ExL.nil ?_
        refine Ex.seq ?_
        refine Ex.regSeq (ExL.pures 3 rfl ?_)
        refine ExL.bool (d := 53) rfl (fun hb9 => ?_) (fun hb9 => ?_)
        · replace hb9 := nb_t hb9
          refine ExL.pures 3 rfl ?_
          refine ExL.nil ?_
          refine Ex.cond_t rfl ?_
          refine Ex.regSeq (ExL.pures 2 rfl ?_)
          refine ExL.nil ?_
          refine Ex.nilRow 56 2 ?_
          refine Ex.ret ?_
          refine RetQ.mk ⟨[], 5, none, 0⟩ rfl (.tmp rfl (.tmp rfl .nil)) (rfl) [0] (rfl) rfl (.inr ⟨rfl, rfl, by first | exact rd_open (n := (splitA 10 [] t).length - 1) (by omega) (by assumption) | exact rd_60 (by omega) | exact rd_line_no (by omega) hx7 hx8 (.inl (by assumption)) | exact rd_line_no (by omega) hx7 hx8 (.inr (by assumption)) | exact rd_no hqc (by omega) (fun h => by simp_all)⟩)
        · replace hb9 := nb_f hb9
          refine ExL.pures 3 rfl ?_
          refine ExL.nil ?_
          refine Ex.cond rfl (fun hb10 => ?_) (fun hb10 => ?_)
          · replace hb10 := nb_t hb10
            refine Ex.regSeq (ExL.pures 2 rfl ?_)
            refine ExL.nil ?_
            refine Ex.nilRow 56 2 ?_
            refine Ex.ret ?_
            refine RetQ.mk ⟨[], 5, none, 0⟩ rfl (.tmp rfl (.tmp rfl .nil)) (rfl) [0] (rfl) rfl (.inr ⟨rfl, rfl, by first | exact rd_open (n := (splitA 10 [] t).length - 1) (by omega) (by assumption) | exact rd_60 (by omega) | exact rd_line_no (by omega) hx7 hx8 (.inl (by assumption)) | exact rd_line_no (by omega) hx7 hx8 (.inr (by assumption)) | exact rd_no hqc (by omega) (fun h => by simp_all)⟩)
          · replace hb10 := nb_f hb10
            refine Ex.skip ?_
            refine Ex.region (ExL.pures 3 rfl ?_)
            refine ExL.free (fr_build rfl rfl rfl rfl) rfl rfl rfl ?_
            refine ExL.op rfl (op_buildSlice (sz := 2) rfl rfl rfl rfl rfl rfl rfl rfl (by decide) rfl rfl rfl (fun r11 => ?_))
            refine ExL.op rfl (op_append (sz := 2) (bytes := 16) (i := 1) rfl rfl rfl rfl (Reads.row (i := 0) rfl) rfl (fun e => nomatch e) rfl rfl rfl rfl (by constructor <;> first | omega | (unfold maxLen; omega)) rfl rfl (fun A12 cA12 => ?_))
            refine ExL.pures 1 rfl ?_
            refine ExL.nil ?_
            refine Ex.region (ExL.pures 0 rfl ?_)
            refine ExL.free (by first | exact fr_add64 rfl rfl rfl (by omega) | exact fr_add rfl rfl rfl) rfl rfl rfl ?_
            refine ExL.pures 1 rfl ?_
            refine ExL.nil ?_
            refine Hand.mk (⟨q.k + 1, q.l ++ [⟨x7.1, x8.1⟩], true, A12, cA12⟩ : TtS VP) 3 [1, 2] ⟨(by rw [List.length_append]; rfl), rfl, trivial⟩ ⟨rfl, rfl, rfl, trivial⟩ (by rw [List.length_append, List.flatMap_append]; rfl) rfl (⟨by dsimp only; omega, by rw [List.length_append, hql]; rfl, hqc.snoc ⟨hx7.1, hx8.1⟩ (by rw [hql]; exact hx7.2.1 (by assumption)) (by rw [hql]; exact hx8.2.1 (by assumption))⟩) (by dsimp only; omega)
      · refine ExL.nil ?_
        refine Ex.seq ?_
        refine Ex.cond_f rfl ?_
        refine Ex.exit ?_
        refine Ex.seq ?_
        refine Ex.regSeq (ExL.pures 1 rfl ?_)
        refine ExL.op rfl (op_ret rfl rfl rfl (c_ValidTotals q.l _ _ (by omega)) (Reads.get (Reads.row (i := 0) rfl)) rfl rfl (fun x14 hx14 => ?_))
        refine ExL.pures 2 rfl ?_
        refine ExL.bool (d := 67) rfl (fun hb15 => ?_) (fun hb15 => ?_)
        · replace hb15 := nb_t hb15
          refine ExL.pures 5 rfl ?_
          refine ExL.nil ?_
          refine Ex.cond_t rfl ?_
          refine Ex.regSeq (ExL.pures 2 rfl ?_)
          refine ExL.nil ?_
          refine Ex.nilRow 56 2 ?_
          refine Ex.ret ?_
          refine RetQ.mk ⟨[], 5, none, 0⟩ rfl (.tmp rfl (.tmp rfl .nil)) (rfl) [0] (rfl) rfl (.inr ⟨rfl, rfl, by first | exact rd_open (n := (splitA 10 [] t).length - 1) (by omega) (by assumption) | exact rd_60 (by omega) | exact rd_line_no (by omega) hx1 hx1 (.inl (by assumption)) | exact rd_line_no (by omega) hx1 hx1 (.inr (by assumption)) | exact rd_no hqc (by omega) (fun h => by simp_all)⟩)
        · replace hb15 := nb_f hb15
          refine ExL.pures 1 rfl ?_
          refine ExL.op rfl (op_ret rfl rfl rfl (c_iTotalsText q.l _ _ (by omega)) (fun w hw => ⟨Reads.get (Reads.row (i := 0) rfl) w hw, TabO.keep htab hw⟩) rfl rfl (fun x16 hx16 => ?_))
          refine ExL.pures 1 rfl ?_
          refine ExL.free (fr_neqS (l := (totTx q.l)) (r := t) rfl rfl rfl) rfl rfl rfl ?_
          refine ExL.pures 1 rfl ?_
          refine ExL.nil ?_
          refine Ex.cond rfl (fun hb17 => ?_) (fun hb17 => ?_)
          · replace hb17 := nd_t hb17
            refine Ex.regSeq (ExL.pures 2 rfl ?_)
            refine ExL.nil ?_
            refine Ex.nilRow 56 2 ?_
            refine Ex.ret ?_
            refine RetQ.mk ⟨[], 5, none, 0⟩ rfl (.tmp rfl (.tmp rfl .nil)) (rfl) [0] (rfl) rfl (.inr ⟨rfl, rfl, by first | exact rd_open (n := (splitA 10 [] t).length - 1) (by omega) (by assumption) | exact rd_60 (by omega) | exact rd_line_no (by omega) hx1 hx1 (.inl (by assumption)) | exact rd_line_no (by omega) hx1 hx1 (.inr (by assumption)) | exact rd_no hqc (by omega) (fun h => by simp_all)⟩)
          · replace hb17 := nd_f hb17
            refine Ex.skip ?_
            refine Ex.regSeq (ExL.pures 3 rfl ?_)
            refine ExL.nil ?_
            refine Ex.ret ?_
            refine RetQ.mk ⟨q.l, 0, q.A, q.cap⟩ rfl (.tmp rfl (.tmp rfl .nil)) (rfl) [0] (rfl) rfl (.inl ⟨rfl, rd_ok (by assumption) (by assumption)⟩)
end Go.Proofs.YtejedjgajcjejaaDoor

/- What these functions of the program hand back, each proved by walking its operations. -/
set_option linter.unusedVariables false
set_option linter.unusedSimpArgs false
set_option maxRecDepth 4000
namespace Go.Proofs.YtejedjgajcjejaaDoor
open Go Go.Sx Go.RowKit Go.W Go.Proofs
attribute [local irreducible] Ex ExL ExD Op1 Free RetQ MutQ Reads CellO SegO LoadsAs
theorem e_10 : Enters Tryd.prog 10 := Enters.of Tryd.func10 rfl
theorem c_markTotalS (s : List VP) (A : Option Addr) (c : Nat) (n : Nat) (hn : n ≤ 100000000 ∧ s.length = n) (k : Int) (hk : 0 ≤ k ∧ k ≤ 1000000000) : Mut Tryd.prog 10 [.slice A n c, .int .i64 k] [.row (.slice A n c) 56 2 n (s.flatMap encP)] (fun base w0 F => True) (fun x : Unit => .int .i64 (k + 2 * n)) (fun x => [.row (.slice A n c) 56 2 n ((mkP n k).flatMap encP)]) (fun x => True) := by
  refine Mut.of e_10 Tryd.func10 rfl Tryd.ntmps10 rfl rfl (fun base w0 F hfr => ?_)
  obtain ⟨hn1, hsl⟩ := hn
  have hsL : (s.flatMap encP).length = n * 2 := by rw [flat_len encP_len, hsl]
  have hml : ((mkP n k).flatMap encP).length = (s.flatMap encP).length := by rw [hsL, flat_len encP_len, mkP_len]
  have hm0 : maxLen = 9223372036854775807 := rfl
  refine Ex.regSeq (ExL.pures 1 rfl ?_)
  refine ExL.nil ?_
  refine Ex.seq ?_
  refine Ex.regSeq (ExL.pures 1 rfl ?_)
  refine ExL.nil ?_
  refine Ex.block ?_
  refine Ex.loopK (X := Nat) (fun i => [(1, .int .i64 (k + 2 * i)), (5, .int .i64 i)]) (fun i => [.row (.slice A n c) 56 2 n (over ((mkP n k).flatMap encP) (s.flatMap encP) (i * 2))]) (fun i => i ≤ n) (fun i => n - i) 0 [(0, _), (4, _)] (F) 1 [0] ⟨agI (by omega), rfl, trivial⟩ ⟨rfl, rfl, trivial⟩ (pkR (by rw [Nat.zero_mul, over_zero])) rfl (Nat.zero_le _) (fun i hI => ?_)
  have hI : i ≤ n := hI
  refine Ex.seq ?_
  refine Ex.regSeq (ExL.pures 3 rfl ?_)
  refine ExL.lss rfl rfl rfl rfl rfl rfl (fun h1 => ?_) (fun h1 => ?_)
  · refine ExL.nil ?_
    refine Ex.cond_t rfl ?_
    refine Ex.skip ?_
    refine Ex.seq ?_
    refine Ex.block ?_
    refine Ex.regSeq (ExL.pures 3 rfl ?_)
    refine ExL.free (fr_indexAddrR (sz := 2) 0 rfl rfl rfl rfl rfl rfl (by omega)) rfl rfl rfl ?_
    refine ExL.free (fr_fieldAddrR 0 rfl (by omega) rfl rfl rfl rfl rfl rfl) rfl rfl rfl ?_
    refine ExL.op rfl (op_storeRowF (i := 0) rfl rfl rfl rfl rfl rfl rfl rfl (over_roomC hml (by omega) (by simp) rfl) (List.cons_ne_nil _ _) rfl (over_cell (p := i * 2) hml (by omega) (by simp) (mkP_cell (j := 0) (by omega) (by omega))) ?_)
    refine ExL.nil ?_
    refine Ex.regSeq (ExL.pures 1 rfl ?_)
    refine ExL.free (by first | exact fr_add64 rfl rfl rfl (by omega) | exact fr_add rfl rfl rfl) rfl rfl rfl ?_
    refine ExL.pures 1 rfl ?_
    refine ExL.nil ?_
    refine Ex.regSeq (ExL.pures 3 rfl ?_)
    refine ExL.free (fr_indexAddrR (sz := 2) 0 rfl rfl rfl rfl rfl rfl (by omega)) rfl rfl rfl ?_
    refine ExL.free (fr_fieldAddrR 0 rfl (by omega) rfl rfl rfl rfl rfl rfl) rfl rfl rfl ?_
    refine ExL.op rfl (op_storeRowF (i := 0) rfl rfl rfl rfl rfl rfl rfl rfl (over_roomC hml (by omega) (by simp) rfl) (List.cons_ne_nil _ _) rfl (over_cell (p := i * 2 + 1) hml (by omega) (by simp) (mkP_cell (j := 1) (by omega) (by omega))) ?_)
    refine ExL.nil ?_
    refine Ex.region (ExL.pures 1 rfl ?_)
    refine ExL.free (by first | exact fr_add64 rfl rfl rfl (by omega) | exact fr_add rfl rfl rfl) rfl rfl rfl ?_
    refine ExL.pures 1 rfl ?_
    refine ExL.nil ?_
    refine Ex.region (ExL.pures 1 rfl ?_)
    refine ExL.free (by first | exact fr_add64 rfl rfl rfl (by omega) | exact fr_add rfl rfl rfl) rfl rfl rfl ?_
    refine ExL.pures 1 rfl ?_
    refine ExL.nil ?_
    refine Hand.mk (i + 1) 1 [0] ⟨agI (by omega), rfl, trivial⟩ ⟨rfl, rfl, trivial⟩ (pkR (by rw [Nat.succ_mul])) rfl (by omega) (by omega)
  · refine ExL.nil ?_
    refine Ex.cond_f rfl ?_
    refine Ex.exit ?_
    obtain rfl : i = n := (by omega)
    refine Ex.regSeq (ExL.pures 2 rfl ?_)
    refine ExL.nil ?_
    refine Ex.ret ?_
    refine MutQ.mk () rfl (.tmp rfl .nil) (rfl) 1 [0] (pkR (by rw [← hsL, over_all hml])) rfl (trivial)
theorem e_11 : Enters Tryd.prog 11 := Enters.of Tryd.func11 rfl
theorem c_heldTotalS (A : Option Addr) (c : Nat) (n : Nat) (hn : n ≤ 100000000) (k : Int) (hk : 0 ≤ k ∧ k ≤ 1000000000) : Ret Tryd.prog 11 [.slice A n c, .int .i64 k] (fun w => Rd w A ((mkP n k).flatMap encP)) (fun x : Unit => .int .i64 (k + 2 * n)) (fun x => []) (fun x => True) := by
  refine Ret.of e_11 Tryd.func11 rfl Tryd.ntmps11 rfl rfl (fun w hpre => ?_)
  have hs := hpre.base
  have hml := mkP_len n k
  rw [← hml]
  have hm0 : maxLen = 9223372036854775807 := rfl
  refine Ex.regSeq (ExL.pures 1 rfl ?_)
  refine ExL.nil ?_
  refine Ex.seq ?_
  refine Ex.regSeq (ExL.pures 1 rfl ?_)
  refine ExL.nil ?_
  refine Ex.block ?_
  refine Ex.loopK (X := Nat) (fun i => [(1, .int .i64 (k + 2 * i)), (5, .int .i64 i)]) (fun i => []) (fun i => i ≤ n) (fun i => n - i) 0 [(0, _)] [] 0 [] ⟨agI (by omega), rfl, trivial⟩ ⟨rfl, trivial⟩ (rfl) rfl (Nat.zero_le _) (fun i hI => ?_)
  have hI : i ≤ n := hI
  refine Ex.seq ?_
  refine Ex.regSeq (ExL.pures 3 rfl ?_)
  refine ExL.lss rfl rfl rfl rfl rfl rfl (fun h1 => ?_) (fun h1 => ?_)
  · refine ExL.nil ?_
    refine Ex.cond_t rfl ?_
    refine Ex.skip ?_
    refine Ex.seq ?_
    refine Ex.block ?_
    refine Ex.seq ?_
    refine Ex.regSeq (ExL.pures 2 rfl ?_)
    refine ExL.free (fr_indexAddrF (Reads.old hs) encP_len rfl rfl rfl rfl rfl rfl (by omega)) rfl rfl rfl ?_
    refine ExL.free (fr_fieldAddrF (i := (↑i : Int).toNat) (Reads.old hs) encP_len rfl rfl rfl (by omega) rfl rfl rfl rfl) rfl rfl rfl ?_
    refine ExL.free (fr_load rfl rfl rfl rfl (by first | exact cellN (Reads.old hs) encP_len zP 0 rfl (by omega) rfl | exact cellF (Reads.old hs) encP_len zP 0 rfl (by omega) rfl)) rfl rfl rfl ?_
    refine ExL.pures 1 rfl ?_
    refine ExL.free (fr_neq_f rfl rfl rfl (by rw [mkP_at (by omega)]; simp)) rfl rfl rfl ?_
    refine ExL.nil ?_
    refine Ex.cond_f rfl ?_
    refine Ex.skip ?_
    refine Ex.regSeq (ExL.pures 1 rfl ?_)
    refine ExL.free (by first | exact fr_add64 rfl rfl rfl (by omega) | exact fr_add rfl rfl rfl) rfl rfl rfl ?_
    refine ExL.pures 1 rfl ?_
    refine ExL.nil ?_
    refine Ex.seq ?_
    refine Ex.regSeq (ExL.pures 2 rfl ?_)
    refine ExL.free (fr_indexAddrF (Reads.old hs) encP_len rfl rfl rfl rfl rfl rfl (by omega)) rfl rfl rfl ?_
    refine ExL.free (fr_fieldAddrF (i := (↑i : Int).toNat) (Reads.old hs) encP_len rfl rfl rfl (by omega) rfl rfl rfl rfl) rfl rfl rfl ?_
    refine ExL.free (fr_load rfl rfl rfl rfl (by first | exact cellN (Reads.old hs) encP_len zP 1 rfl (by omega) rfl | exact cellF (Reads.old hs) encP_len zP 1 rfl (by omega) rfl)) rfl rfl rfl ?_
    refine ExL.pures 1 rfl ?_
    refine ExL.free (fr_neq_f rfl rfl rfl (by rw [mkP_at (by omega)]; simp)) rfl rfl rfl ?_
    refine ExL.nil ?_
    refine Ex.cond_f rfl ?_
    refine Ex.skip ?_
    refine Ex.region (ExL.pures 1 rfl ?_)
    refine ExL.free (by first | exact fr_add64 rfl rfl rfl (by omega) | exact fr_add rfl rfl rfl) rfl rfl rfl ?_
    refine ExL.pures 1 rfl ?_
    refine ExL.nil ?_
    refine Ex.region (ExL.pures 1 rfl ?_)
    refine ExL.free (by first | exact fr_add64 rfl rfl rfl (by omega) | exact fr_add rfl rfl rfl) rfl rfl rfl ?_
    refine ExL.pures 1 rfl ?_
    refine ExL.nil ?_
    refine Hand.mk (i + 1) 0 [] ⟨agI (by omega), rfl, trivial⟩ ⟨rfl, trivial⟩ (rfl) rfl (by omega) (by omega)
  · refine ExL.nil ?_
    refine Ex.cond_f rfl ?_
    refine Ex.exit ?_
    refine Ex.regSeq (ExL.pures 2 rfl ?_)
    refine ExL.nil ?_
    refine Ex.ret ?_
    refine RetQ.mk () rfl (.tmp rfl .nil) (tI (by omega)) [] (rfl) rfl (trivial)
end Go.Proofs.YtejedjgajcjejaaDoor

/- What these functions of the program hand back, each proved by walking its operations. -/
set_option linter.unusedVariables false
set_option linter.unusedSimpArgs false
set_option maxRecDepth 4000
namespace Go.Proofs.YtejedjgajcjejaaDoor
open Go Go.Sx Go.RowKit Go.W Go.Proofs
attribute [local irreducible] Ex ExL ExD Op1 Free RetQ MutQ Reads CellO SegO LoadsAs
theorem e_3 : Enters Tryd.prog 3 := Enters.of Tryd.func3 rfl
theorem w_FnExactReadTotals (t : List UInt8) (hlt : t.length ≤ maxLen) : Ret Tryd.prog 3 [sv t] (fun w => RdO 0 1 2 w ∧ TabO Tryd.prog w) (fun x : Unit => .bool true) (fun x => []) (fun x => True) := by
  refine Ret.of e_3 Tryd.func3 rfl Tryd.ntmps3 rfl rfl (fun w hpre => ?_)
  have hrd := hpre.1
  have htab := hpre.2
  have hm0 : maxLen = 9223372036854775807 := rfl
  refine Ex.regSeq (ExL.pures 1 rfl ?_)
  refine ExL.nil ?_
  refine Ex.seq ?_
  refine Ex.regSeq (ExL.pures 1 rfl ?_)
  refine ExL.free (fr_lenS (l := t) rfl rfl rfl) rfl rfl rfl ?_
  refine ExL.gtr rfl rfl rfl rfl rfl rfl (fun h1 => ?_) (fun h1 => ?_)
  · refine ExL.nil ?_
    refine Ex.cond_t rfl ?_
    refine Ex.regSeq (ExL.pures 1 rfl ?_)
    refine ExL.nil ?_
    refine Ex.ret ?_
    refine RetQ.mk () rfl (.tmp rfl .nil) (tB (by first | rfl | (exfalso; omega) | (exfalso; simp_all [samePs_refl]; done))) [] (rfl) rfl (trivial)
  · refine ExL.nil ?_
    refine Ex.cond_f rfl ?_
    refine Ex.skip ?_
    refine Ex.regSeq (ExL.pures 1 rfl ?_)
    refine ExL.op rfl (op_ret rfl rfl rfl (c_sReadTotals t (by omega)) (fun _ _ => trivial) rfl rfl (fun x2 hx2 => ?_))
    have hnx2 := tot_len hx2
    refine ExL.pures 5 rfl ?_
    refine ExL.nil ?_
    refine Ex.regSeq (ExL.pures 1 rfl ?_)
    refine ExL.op rfl (op_ret rfl rfl rfl (c_iReadTotals t (by omega)) (fun w hw => ⟨RdO.keep hrd hw, TabO.keep htab hw⟩) rfl rfl (fun x3 hx3 => ?_))
    have hnx3 := tot_len hx3
    obtain ⟨hlx3, hcx3⟩ := tot_one hx3 hx2
    refine ExL.pures 5 rfl ?_
    refine ExL.nil ?_
    refine Ex.seq ?_
    refine Ex.regSeq (ExL.pures 2 rfl ?_)
    refine ExL.op rfl (op_ret rfl rfl rfl (c_eqTotalS x3.l _ _ (by omega) x2.l _ _ (by omega)) (fun w hw => ⟨Reads.get (Reads.row (i := 0) rfl) w hw, Reads.get (Reads.row (i := 1) rfl) w hw⟩) rfl rfl (fun x4 hx4 => ?_))
    refine ExL.pures 2 rfl ?_
    refine ExL.bool (d := 28) rfl (fun hb5 => ?_) (fun hb5 => ?_)
    · replace hb5 := nb_t hb5
      refine ExL.pures 4 rfl ?_
      refine ExL.nil ?_
      refine Ex.cond_t rfl ?_
      refine Ex.regSeq (ExL.pures 1 rfl ?_)
      refine ExL.nil ?_
      refine Ex.ret ?_
      refine RetQ.mk () rfl (.tmp rfl .nil) (tB (by first | rfl | (exfalso; omega) | (exfalso; simp_all [samePs_refl]; done))) [] (rfl) rfl (trivial)
    · replace hb5 := nb_f hb5
      refine ExL.pures 2 rfl ?_
      refine ExL.neq rfl rfl rfl rfl rfl rfl (fun h6 => ?_) (fun h6 => ?_)
      · refine ExL.pures 1 rfl ?_
        refine ExL.nil ?_
        refine Ex.cond_t rfl ?_
        refine Ex.regSeq (ExL.pures 1 rfl ?_)
        refine ExL.nil ?_
        refine Ex.ret ?_
        refine RetQ.mk () rfl (.tmp rfl .nil) (tB (by first | rfl | (exfalso; omega) | (exfalso; simp_all [samePs_refl]; done))) [] (rfl) rfl (trivial)
      · refine ExL.pures 1 rfl ?_
        refine ExL.nil ?_
        refine Ex.cond_f rfl ?_
        refine Ex.skip ?_
        refine Ex.regSeq (ExL.pures 1 rfl ?_)
        refine ExL.nil ?_
        refine Ex.regSeq (ExL.pures 2 rfl ?_)
        refine ExL.op rfl (op_mut rfl rfl rfl (c_markTotalS x3.l _ _ _ (by omega) 1 (by omega)) (perm_at (i := 0) rfl) (trivial) rfl rfl (fun x7 hx7 => ?_))
        refine ExL.pures 1 rfl ?_
        refine ExL.nil ?_
        refine Ex.regSeq (ExL.pures 1 rfl ?_)
        refine ExL.nil ?_
        refine Ex.regSeq (ExL.pures 2 rfl ?_)
        refine ExL.op rfl (op_ret rfl rfl rfl (c_heldTotalS _ _ _ (by omega) 1 (by omega)) (Reads.get (Reads.row (i := 0) rfl)) rfl rfl (fun x8 hx8 => ?_))
        refine ExL.pures 1 rfl ?_
        refine ExL.nil ?_
        refine Ex.seq ?_
        refine Ex.regSeq (ExL.pures 1 rfl ?_)
        refine ExL.lss rfl rfl rfl rfl rfl rfl (fun h9 => ?_) (fun h9 => ?_)
        · refine ExL.nil ?_
          refine Ex.cond_t rfl ?_
          refine Ex.regSeq (ExL.pures 1 rfl ?_)
          refine ExL.nil ?_
          refine Ex.ret ?_
          refine RetQ.mk () rfl (.tmp rfl .nil) (tB (by first | rfl | (exfalso; omega) | (exfalso; simp_all [samePs_refl]; done))) [] (rfl) rfl (trivial)
        · refine ExL.nil ?_
          refine Ex.cond_f rfl ?_
          refine Ex.skip ?_
          refine Ex.seq ?_
          refine Ex.regSeq (ExL.pures 2 rfl ?_)
          refine ExL.neq rfl rfl rfl rfl rfl rfl (fun h10 => ?_) (fun h10 => ?_)
          · refine ExL.nil ?_
            refine Ex.cond_t rfl ?_
            refine Ex.regSeq (ExL.pures 1 rfl ?_)
            refine ExL.nil ?_
            refine Ex.ret ?_
            refine RetQ.mk () rfl (.tmp rfl .nil) (tB (by first | rfl | (exfalso; omega) | (exfalso; simp_all [samePs_refl]; done))) [] (rfl) rfl (trivial)
          · refine ExL.nil ?_
            refine Ex.cond_f rfl ?_
            refine Ex.skip ?_
            refine Ex.regSeq (ExL.pures 1 rfl ?_)
            refine ExL.op rfl (op_ret rfl rfl rfl (c_iReadTotals t (by omega)) (fun w hw => ⟨RdO.keep hrd hw, TabO.keep htab hw⟩) rfl rfl (fun x11 hx11 => ?_))
            have hnx11 := tot_len hx11
            obtain ⟨hlx11, hcx11⟩ := tot_one hx11 hx2
            refine ExL.pures 5 rfl ?_
            refine ExL.nil ?_
            refine Ex.seq ?_
            refine Ex.regSeq (ExL.pures 2 rfl ?_)
            refine ExL.op rfl (op_ret rfl rfl rfl (c_eqTotalS x11.l _ _ (by omega) x2.l _ _ (by omega)) (fun w hw => ⟨Reads.get (Reads.row (i := 0) rfl) w hw, Reads.get (Reads.row (i := 2) rfl) w hw⟩) rfl rfl (fun x12 hx12 => ?_))
            refine ExL.pures 2 rfl ?_
            refine ExL.bool (d := 53) rfl (fun hb13 => ?_) (fun hb13 => ?_)
            · replace hb13 := nb_t hb13
              refine ExL.pures 4 rfl ?_
              refine ExL.nil ?_
              refine Ex.cond_t rfl ?_
              refine Ex.regSeq (ExL.pures 1 rfl ?_)
              refine ExL.nil ?_
              refine Ex.ret ?_
              refine RetQ.mk () rfl (.tmp rfl .nil) (tB (by first | rfl | (exfalso; omega) | (exfalso; simp_all [samePs_refl]; done))) [] (rfl) rfl (trivial)
            · replace hb13 := nb_f hb13
              refine ExL.pures 2 rfl ?_
              refine ExL.neq rfl rfl rfl rfl rfl rfl (fun h14 => ?_) (fun h14 => ?_)
              · refine ExL.pures 1 rfl ?_
                refine ExL.nil ?_
                refine Ex.cond_t rfl ?_
                refine Ex.regSeq (ExL.pures 1 rfl ?_)
                refine ExL.nil ?_
                refine Ex.ret ?_
                refine RetQ.mk () rfl (.tmp rfl .nil) (tB (by first | rfl | (exfalso; omega) | (exfalso; simp_all [samePs_refl]; done))) [] (rfl) rfl (trivial)
              · refine ExL.pures 1 rfl ?_
                refine ExL.nil ?_
                refine Ex.cond_f rfl ?_
                refine Ex.skip ?_
                refine Ex.regSeq (ExL.pures 1 rfl ?_)
                refine ExL.nil ?_
                refine Ex.regSeq (ExL.pures 2 rfl ?_)
                refine ExL.op rfl (op_ret rfl rfl rfl (c_heldTotalS _ _ _ (by omega) 1 (by omega)) (Reads.get (Reads.row (i := 1) rfl)) rfl rfl (fun x15 hx15 => ?_))
                refine ExL.pures 1 rfl ?_
                refine ExL.nil ?_
                refine Ex.seq ?_
                refine Ex.regSeq (ExL.pures 1 rfl ?_)
                refine ExL.lss rfl rfl rfl rfl rfl rfl (fun h16 => ?_) (fun h16 => ?_)
                · refine ExL.nil ?_
                  refine Ex.cond_t rfl ?_
                  refine Ex.regSeq (ExL.pures 1 rfl ?_)
                  refine ExL.nil ?_
                  refine Ex.ret ?_
                  refine RetQ.mk () rfl (.tmp rfl .nil) (tB (by first | rfl | (exfalso; omega) | (exfalso; simp_all [samePs_refl]; done))) [] (rfl) rfl (trivial)
                · refine ExL.nil ?_
                  refine Ex.cond_f rfl ?_
                  refine Ex.skip ?_
                  refine Ex.seq ?_
                  refine Ex.regSeq (ExL.pures 2 rfl ?_)
                  refine ExL.neq rfl rfl rfl rfl rfl rfl (fun h17 => ?_) (fun h17 => ?_)
                  · refine ExL.nil ?_
                    refine Ex.cond_t rfl ?_
                    refine Ex.regSeq (ExL.pures 1 rfl ?_)
                    refine ExL.nil ?_
                    refine Ex.ret ?_
                    refine RetQ.mk () rfl (.tmp rfl .nil) (tB (by first | rfl | (exfalso; omega) | (exfalso; simp_all [samePs_refl]; done))) [] (rfl) rfl (trivial)
                  · refine ExL.nil ?_
                    refine Ex.cond_f rfl ?_
                    refine Ex.skip ?_
                    refine Ex.regSeq (ExL.pures 1 rfl ?_)
                    refine ExL.nil ?_
                    refine Ex.ret ?_
                    refine RetQ.mk () rfl (.tmp rfl .nil) (tB (by first | rfl | (exfalso; omega) | (exfalso; simp_all [samePs_refl]; done))) [] (rfl) rfl (trivial)
end Go.Proofs.YtejedjgajcjejaaDoor
