/- What these functions of the program hand back, each proved by walking its operations. -/
import Derived.Test.YtepahnikcojepaaProg
import Derived.Test.YtepahnikcojepaaFw
import Derived.Test.YtepahnikcojepaaGJ2
import Derived.Test.YtepahnikcojepaaM19
set_option linter.unusedVariables false
set_option linter.unusedSimpArgs false
set_option maxRecDepth 4000
namespace Go.Proofs.Ytepahnikcojepaa
open Go Go.Sx Go.RowKit Go.W Go.Proofs
attribute [local irreducible] Ex ExL ExD Op1 Free RetQ MutQ Reads CellO SegO LoadsAs
theorem e_53 : Enters Try.prog 53 := Enters.of Try.func53 rfl
theorem c_sSure (s : List Int) (hu : Nums 255 s) (As : Option Addr) (cs : Nat) (hls : s.length ≤ maxLen) (l : List VP) (Al : Option Addr) (cl : Nat) (hll : l.length ≤ maxLen) (f : VP) : Ret Try.prog 53 [.slice As s.length cs, .slice Al l.length cl, .agg (encP f).toArray] (fun w => Rd w As (s.flatMap (eI .u8)) ∧ Rd w Al (l.flatMap encP)) (fun x : Option Addr × Nat => .tuple #[.slice x.1 (sureV s l f).1.length x.2, .int .i64 (sureV s l f).2]) (fun x => [.row (.slice x.1 (sureV s l f).1.length x.2) 2 1 (sureV s l f).1.length ((sureV s l f).1.flatMap (eI .i64))]) (fun x => True) := by
  refine Ret.of e_53 Try.func53 rfl Try.ntmps53 rfl rfl (fun w hpre => ?_)
  have hs := hpre.1.base
  have hl := hpre.2.base
  have hm0 : maxLen = 9223372036854775807 := rfl
  refine Ex.regSeq (ExL.pures 0 rfl ?_)
  refine ExL.op rfl (op_box rfl rfl rfl rfl rfl (fun b1 => ?_))
  refine ExL.pures 2 rfl ?_
  refine ExL.nil ?_
  refine Ex.seq ?_
  refine Ex.regSeq (ExL.pures 2 rfl ?_)
  refine ExL.free (fr_loadN rfl rfl rfl rfl rfl (SegO.whole (i := 0) rfl)) rfl rfl rfl ?_
  refine ExL.op rfl (op_ret rfl rfl rfl (c_l04Asked s (by assumption) _ _ (by omega) l _ _ (by omega) f) (fun w hw => ⟨Reads.get (Reads.old hs) w hw, Reads.get (Reads.old hl) w hw⟩) rfl rfl (fun x2 hx2 => ?_))
  refine ExL.pures 1 rfl ?_
  refine ExL.nil ?_
  refine Ex.regSeq (ExL.pures 1 rfl ?_)
  refine ExL.neq rfl rfl rfl rfl rfl rfl (fun h3 => ?_) (fun h3 => ?_)
  · refine ExL.nil ?_
    refine Ex.cond_t rfl ?_
    obtain ⟨hask, hcod⟩ := askC_1 (by omega)
    rw [hcod]
    have hsu := su_1 hask
    refine Ex.regSeq (ExL.pures 0 rfl ?_)
    refine ExL.op rfl (op_buildSlice (sz := 1) rfl rfl rfl rfl rfl rfl rfl rfl (by decide) rfl rfl rfl (fun r4 => ?_))
    refine ExL.pures 3 rfl ?_
    refine ExL.nil ?_
    refine Ex.ret ?_
    refine RetQ.mk ((some ⟨r4, 0, none⟩), 0) rfl (.tmp rfl (.tmp rfl .nil)) (t2 (by first | (rw [hsu]; first | done | rfl)) (by first | (rw [hsu]; first | done | rfl))) [0] (by first | (rw [hsu]; first | done | rfl)) rfl (trivial)
  · refine ExL.nil ?_
    refine Ex.cond_f rfl ?_
    refine Ex.skip ?_
    have hask := askC_0 (s := s) (l := l) (f := f) (by omega)
    obtain ⟨hL, hf⟩ := ask_of hask
    have hLl := hL.len
    have hrl := rstL_len (fitsF s l f) l.length
    have hbc : (stV (fitsF s l f) l.length).cost = (bstV (fitsF s l f) l.length l.length).cost := rfl
    refine Ex.regSeq (ExL.pures 2 rfl ?_)
    refine ExL.free (fr_loadN rfl rfl rfl rfl rfl (SegO.whole (i := 0) rfl)) rfl rfl rfl ?_
    refine ExL.op rfl (op_ret rfl rfl rfl (c_l04Rests s (by assumption) _ _ (by omega) l _ _ (by omega) (by assumption) f (by assumption)) (fun w hw => ⟨Reads.get (Reads.old hs) w hw, Reads.get (Reads.old hl) w hw⟩) rfl rfl (fun x5 hx5 => ?_))
    refine ExL.pures 1 rfl ?_
    refine ExL.nil ?_
    refine Ex.regSeq (ExL.pures 2 rfl ?_)
    refine ExL.free (fr_loadN rfl rfl rfl rfl rfl (SegO.whole (i := 1) rfl)) rfl rfl rfl ?_
    refine ExL.op rfl (op_ret rfl rfl rfl (c_l04Best s (by assumption) _ _ (by omega) l _ _ (by omega) (by assumption) f (by assumption)) (fun w hw => ⟨Reads.get (Reads.old hs) w hw, Reads.get (Reads.old hl) w hw⟩) rfl rfl (fun x6 hx6 => ?_))
    refine ExL.free (fr_field rfl rfl rfl rfl rfl rfl rfl) rfl rfl rfl ?_
    refine ExL.pures 1 rfl ?_
    refine ExL.nil ?_
    refine Ex.regSeq (ExL.pures 2 rfl ?_)
    refine ExL.op rfl (op_makeSlice (sz := 8) rfl rfl rfl rfl rfl rfl rfl rfl (⟨by omega, by unfold maxLen; omega⟩) rfl rfl (fun r7 => ?_))
    refine ExL.pures 1 rfl ?_
    refine ExL.nil ?_
    refine Ex.regSeq (ExL.pures 0 rfl ?_)
    refine ExL.op rfl (op_buildSlice (sz := 1) rfl rfl rfl rfl rfl rfl rfl rfl (by decide) rfl rfl rfl (fun r8 => ?_))
    refine ExL.pures 1 rfl ?_
    refine ExL.nil ?_
    refine Ex.seq ?_
    refine Ex.regSeq (ExL.pures 1 rfl ?_)
    refine ExL.nil ?_
    refine Ex.block ?_
    refine Ex.loopA (fun i A c => [(12, .slice A (sureL (fitsF s l f) l.length i).length c), (13, .int .i64 i)]) (fun i A c => [.row (.slice A (sureL (fitsF s l f) l.length i).length c) 2 1 (sureL (fitsF s l f) l.length i).length ((sureL (fitsF s l f) l.length i).flatMap (eI .i64)), .row (.slice (some ⟨r7, 0, none⟩) l.length l.length) 2 1 l.length ((flO (fitsF s l f) l.length i).flatMap (eI .i64))]) (fun i => i ≤ l.length) (fun i => l.length - i) 0 ((some ⟨r8, 0, none⟩)) (0) [(0, _), (1, _), (5, _), (6, _), (7, _), (9, _), (10, _), (11, _)] [_, _] 6 [0, 1, 4, 5] ⟨rfl, rfl, trivial⟩ ⟨rfl, rfl, rfl, rfl, rfl, rfl, rfl, rfl, trivial⟩ (pkR2 (flO_zero rfl)) rfl (Nat.zero_le _) (fun i A c hI => ?_)
    have hI : i ≤ l.length := hI
    have hsl := sureL_len (fitsF s l f) l.length i
    refine Ex.seq ?_
    refine Ex.regSeq (ExL.pures 3 rfl ?_)
    refine ExL.lss rfl rfl rfl rfl rfl rfl (fun h9 => ?_) (fun h9 => ?_)
    · refine ExL.nil ?_
      refine Ex.cond_t rfl ?_
      refine Ex.skip ?_
      refine Ex.seq ?_
      refine Ex.block ?_
      refine Ex.regSeq (ExL.pures 3 rfl ?_)
      refine ExL.free (by first | exact fr_mul64 rfl rfl rfl (by omega) | exact fr_mul rfl rfl rfl) rfl rfl rfl ?_
      refine ExL.free (fr_indexAddr (sz := 1) rfl rfl rfl rfl rfl rfl (by omega)) rfl rfl rfl ?_
      refine ExL.op rfl (op_storeRowF (i := 1) rfl rfl rfl rfl rfl rfl rfl rfl (room (eI_len .i64) (k := i) (by rw [flO_len (by omega)]; omega) (by simp) rfl) (List.cons_ne_nil _ _) rfl (flO_put (x := (finV (fitsF s l f) i (fl (fitsF s l f) i) 0)) (by omega) (by simp) (by rw [Int.one_mul]; rfl)) ?_)
      refine ExL.nil ?_
      refine Ex.seq ?_
      refine Ex.regSeq (ExL.pures 1 rfl ?_)
      refine ExL.nil ?_
      refine Ex.block ?_
      refine Ex.loopK (X := Nat) (fun m => [(14, .int .i64 m)]) (fun m => [.row (.slice (some ⟨r7, 0, none⟩) l.length l.length) 2 1 l.length ((flR (fitsF s l f) l.length i (finV (fitsF s l f) i (fl (fitsF s l f) i) m)).flatMap (eI .i64))]) (fun m => m ≤ i) (fun m => i - m) 0 [(0, _), (1, _), (5, _), (6, _), (7, _), (9, _), (10, _), (11, _), (12, _), (13, _)] [_, _, _] 4 [1, 0, 2, 3] ⟨rfl, trivial⟩ ⟨rfl, rfl, rfl, rfl, rfl, rfl, rfl, rfl, rfl, rfl, trivial⟩ (rfl) rfl (Nat.zero_le _) (fun m hI => ?_)
      have hI : m ≤ i := hI
      refine Ex.seq ?_
      refine Ex.regSeq (ExL.pures 2 rfl ?_)
      refine ExL.lss rfl rfl rfl rfl rfl rfl (fun h10 => ?_) (fun h10 => ?_)
      · refine ExL.nil ?_
        refine Ex.cond_t rfl ?_
        refine Ex.skip ?_
        refine Ex.seq ?_
        refine Ex.block ?_
        have hfl := flR_len (fit := (fitsF s l f)) (n := l.length) (i := i) (x := (finV (fitsF s l f) i (fl (fitsF s l f) i) m)) (by omega)
        have ha := flR_at (fit := (fitsF s l f)) (n := l.length) (i := i) (x := (finV (fitsF s l f) i (fl (fitsF s l f) i) m))
        have hlo := flR_lo (fit := (fitsF s l f)) (n := l.length) (i := i) (k := m) (x := (finV (fitsF s l f) i (fl (fitsF s l f) i) m)) (by omega)
        have hfb := fl_bd (fitsF s l f) i m (by omega)
        have hxb := fin_bd (fit := (fitsF s l f)) (i := i) (fl_bd (fitsF s l f) i) m (by omega)
        have hbk := brk_bd (fitsF s l f m i)
        refine Ex.regSeq (ExL.pures 2 rfl ?_)
        refine ExL.free (fr_loadN rfl rfl rfl rfl rfl (SegO.whole (i := 3) rfl)) rfl rfl rfl ?_
        refine ExL.pures 2 rfl ?_
        refine ExL.op rfl (op_ret rfl rfl rfl (c_l04Step s (by assumption) _ _ (by omega) l _ _ (by omega) (by assumption) f (by assumption) m i (by omega) (by omega) (by omega)) (fun w hw => ⟨Reads.get (Reads.old hs) w hw, Reads.get (Reads.old hl) w hw⟩) rfl rfl (fun x11 hx11 => ?_))
        refine ExL.pures 5 rfl ?_
        refine ExL.nil ?_
        refine Ex.drawM rfl ?_
        refine ExD.take (i := 0) rfl (by kernel_rfl) (pureVal_ok rfl) ((List.Sublist.refl _)) rfl rfl rfl ?_
        refine ExD.take (i := 1) rfl (by kernel_rfl) (pureVal_ok rfl) ((List.Sublist.refl _)) rfl rfl rfl ?_
        refine ExD.take (i := 2) rfl (by kernel_rfl) (pureVal_ok rfl) ((List.Sublist.refl _)) rfl rfl rfl ?_
        refine ExD.take (i := 3) rfl (by kernel_rfl) (pureVal_ok rfl) ((List.Sublist.refl _)) rfl rfl rfl ?_
        refine ExD.take (i := 4) rfl (by kernel_rfl) (fr_indexAddr (sz := 1) rfl rfl rfl rfl rfl rfl (by omega)) ((List.Sublist.refl _)) rfl rfl rfl ?_
        refine ExD.take (i := 5) rfl (by kernel_rfl) (fr_load rfl rfl rfl rfl (by first | exact cellN (Reads.row (i := 0) rfl) (eI_len .i64) 0 0 rfl (by omega) rfl | exact cellF (Reads.row (i := 0) rfl) (eI_len .i64) 0 0 rfl (by omega) rfl)) ((List.Sublist.refl _)) rfl rfl rfl ?_
        refine ExD.take (i := 6) rfl (by kernel_rfl) (pureVal_ok rfl) ((List.Sublist.refl _)) rfl rfl rfl ?_
        refine ExD.take (i := 7) rfl (by kernel_rfl) (pureVal_ok rfl) ((List.Sublist.refl _)) rfl rfl rfl ?_
        refine ExD.take (i := 8) rfl (by kernel_rfl) (fr_indexAddr (sz := 1) rfl rfl rfl rfl rfl rfl (by omega)) ((List.Sublist.refl _)) rfl rfl rfl ?_
        refine ExD.take (i := 9) rfl (by kernel_rfl) (fr_load rfl rfl rfl rfl (by first | exact cellN (Reads.row (i := 0) rfl) (eI_len .i64) 0 0 rfl (by omega) rfl | exact cellF (Reads.row (i := 0) rfl) (eI_len .i64) 0 0 rfl (by omega) rfl)) ((List.Sublist.refl _)) rfl rfl rfl ?_
        refine ExD.take (i := 10) rfl (by kernel_rfl) (pureVal_ok rfl) ((List.Sublist.refl _)) rfl rfl rfl ?_
        refine ExD.take (i := 11) rfl (by kernel_rfl) (by first | exact fr_add64 rfl rfl rfl (by omega) | exact fr_add rfl rfl rfl) ((List.Sublist.refl _)) rfl rfl rfl ?_
        refine ExD.op (i := 12) rfl (by kernel_rfl) rfl (op_ret rfl rfl rfl (c_l00Min _ _) (fun _ _ => trivial) rfl rfl (fun x12 hx12 => ⟨(List.Sublist.refl _), ?_⟩))
        refine ExD.take (i := 13) rfl (by kernel_rfl) (fr_indexAddr (sz := 1) rfl rfl rfl rfl rfl rfl (by omega)) ((List.Sublist.refl _)) rfl rfl rfl ?_
        refine ExD.last (i := 14) rfl (by kernel_rfl) (by kernel_rfl) rfl (op_storeRowF (i := 0) rfl rfl rfl rfl rfl rfl rfl rfl (room (eI_len .i64) (k := i) (by rw [flR_len (by omega)]; omega) (by simp) rfl) (List.cons_ne_nil _ _) rfl (flR_put (y := (finV (fitsF s l f) i (fl (fitsF s l f) i) (m + 1))) (by omega) (by simp) (by rw [ha, hlo]; exact congrArg (fun z => [Value.int .i64 z]) (fin_step (by omega)))) ?_)
        refine ExD.done (by kernel_rfl) ?_
        refine Ex.region (ExL.pures 1 rfl ?_)
        refine ExL.free (by first | exact fr_add64 rfl rfl rfl (by omega) | exact fr_add rfl rfl rfl) rfl rfl rfl ?_
        refine ExL.pures 1 rfl ?_
        refine ExL.nil ?_
        refine Hand.mk (m + 1) 4 [0, 1, 2, 3] ⟨rfl, trivial⟩ ⟨rfl, rfl, rfl, rfl, rfl, rfl, rfl, rfl, rfl, rfl, trivial⟩ (rfl) rfl (by omega) (by omega)
      · refine ExL.nil ?_
        refine Ex.cond_f rfl ?_
        refine Ex.exit ?_
        obtain rfl : i = m := (by omega)
        have hfl := flR_len (fit := (fitsF s l f)) (n := l.length) (i := i) (x := (finV (fitsF s l f) i (fl (fitsF s l f) i) i)) (by omega)
        have ha := flR_at (fit := (fitsF s l f)) (n := l.length) (i := i) (x := (finV (fitsF s l f) i (fl (fitsF s l f) i) i))
        have hxb := fin_bd (fit := (fitsF s l f)) (i := i) (fl_bd (fitsF s l f) i) i (Nat.le_refl _)
        have hrb := rst_bd (fit := (fitsF s l f)) (n := l.length) (i := i) (by omega)
        refine Ex.drawSeqM rfl ?_
        refine ExD.take (i := 0) rfl (by kernel_rfl) (pureVal_ok rfl) ((List.Sublist.refl _)) rfl rfl rfl ?_
        refine ExD.take (i := 1) rfl (by kernel_rfl) (pureVal_ok rfl) ((List.Sublist.refl _)) rfl rfl rfl ?_
        refine ExD.take (i := 2) rfl (by kernel_rfl) (fr_indexAddr (sz := 1) rfl rfl rfl rfl rfl rfl (by omega)) ((List.Sublist.refl _)) rfl rfl rfl ?_
        refine ExD.take (i := 3) rfl (by kernel_rfl) (fr_load rfl rfl rfl rfl (by first | exact cellN (Reads.row (i := 0) rfl) (eI_len .i64) 0 0 rfl (by omega) rfl | exact cellF (Reads.row (i := 0) rfl) (eI_len .i64) 0 0 rfl (by omega) rfl)) ((List.Sublist.refl _)) rfl rfl rfl ?_
        refine ExD.take (i := 4) rfl (by kernel_rfl) (pureVal_ok rfl) ((List.Sublist.refl _)) rfl rfl rfl ?_
        refine ExD.take (i := 5) rfl (by kernel_rfl) (pureVal_ok rfl) ((List.Sublist.refl _)) rfl rfl rfl ?_
        refine ExD.take (i := 6) rfl (by kernel_rfl) (fr_indexAddr (sz := 3) rfl rfl rfl rfl rfl rfl (by omega)) ((List.Sublist.refl _)) rfl rfl rfl ?_
        refine ExD.take (i := 7) rfl (by kernel_rfl) (fr_fieldAddrF (i := (↑i : Int).toNat) (Reads.row (i := 2) rfl) encR_len rfl rfl rfl (by omega) rfl rfl rfl rfl) ((List.Sublist.refl _)) rfl rfl rfl ?_
        refine ExD.take (i := 8) rfl (by kernel_rfl) (fr_load rfl rfl rfl rfl (by first | exact cellN (Reads.row (i := 2) rfl) encR_len zR 0 rfl (by omega) rfl | exact cellF (Reads.row (i := 2) rfl) encR_len zR 0 rfl (by omega) rfl)) ((List.Sublist.refl _)) rfl rfl rfl ?_
        refine ExD.take (i := 9) rfl (by kernel_rfl) (by first | exact fr_add64 rfl rfl rfl (by omega) | exact fr_add rfl rfl rfl) ((List.Sublist.refl _)) rfl rfl rfl ?_
        refine ExD.take (i := 10) rfl (by kernel_rfl) (pureVal_ok rfl) ((List.Sublist.refl _)) rfl rfl rfl ?_
        refine ExD.cmp_gtr (i := 11) rfl (by kernel_rfl) rfl rfl rfl ((List.Sublist.refl _)) rfl rfl rfl (fun h13 => ?_) (fun h13 => ?_)
        · refine ExD.done (by kernel_rfl) ?_
          refine Ex.cond_t rfl ?_
          refine Ex.region (ExL.pures 2 rfl ?_)
          refine ExL.op rfl (op_buildSlice (sz := 1) rfl rfl rfl rfl rfl rfl rfl rfl (by decide) rfl rfl rfl (fun r14 => ?_))
          refine ExL.op rfl (op_append (sz := 1) (bytes := 8) (i := 2) rfl rfl rfl rfl (Reads.row (i := 0) rfl) rfl (fun e => nomatch e) rfl rfl rfl rfl (by constructor <;> first | omega | (unfold maxLen; omega)) rfl rfl (fun A15 cA15 => ?_))
          refine ExL.pures 1 rfl ?_
          refine ExL.nil ?_
          refine Ex.region (ExL.pures 1 rfl ?_)
          refine ExL.free (by first | exact fr_add64 rfl rfl rfl (by omega) | exact fr_add rfl rfl rfl) rfl rfl rfl ?_
          refine ExL.pures 1 rfl ?_
          refine ExL.nil ?_
          refine HandA.of (i + 1) (A15) (cA15) 5 [2, 1, 3, 4] ⟨(by first | (rw [sure_y (by omega), List.length_append]; rfl) | (rw [sure_n (by omega)]; first | done | rfl)), rfl, trivial⟩ ⟨rfl, rfl, rfl, rfl, rfl, rfl, rfl, rfl, trivial⟩ (by rw [← flR_fin (by omega)]; first | (rw [sure_y (by omega), List.length_append, List.flatMap_append]; rfl) | (rw [sure_n (by omega)]; first | done | rfl)) rfl (by omega) (by omega)
        · refine ExD.done (by kernel_rfl) ?_
          refine Ex.cond_f rfl ?_
          refine Ex.skip ?_
          refine Ex.region (ExL.pures 1 rfl ?_)
          refine ExL.free (by first | exact fr_add64 rfl rfl rfl (by omega) | exact fr_add rfl rfl rfl) rfl rfl rfl ?_
          refine ExL.pures 1 rfl ?_
          refine ExL.nil ?_
          refine HandA.of (i + 1) (A) (c) 4 [1, 0, 2, 3] ⟨(by first | (rw [sure_y (by omega), List.length_append]; rfl) | (rw [sure_n (by omega)]; first | done | rfl)), rfl, trivial⟩ ⟨rfl, rfl, rfl, rfl, rfl, rfl, rfl, rfl, trivial⟩ (by rw [← flR_fin (by omega)]; first | (rw [sure_y (by omega), List.length_append, List.flatMap_append]; rfl) | (rw [sure_n (by omega)]; first | done | rfl)) rfl (by omega) (by omega)
    · refine ExL.nil ?_
      refine Ex.cond_f rfl ?_
      refine Ex.exit ?_
      have hsu := su_0 (s := s) (l := l) (f := f) (k := i) hask (by omega)
      refine Ex.regSeq (ExL.pures 3 rfl ?_)
      refine ExL.nil ?_
      refine Ex.ret ?_
      refine RetQ.mk (A, c) rfl (.tmp rfl (.tmp rfl .nil)) (t2 (by first | (rw [hsu]; first | done | rfl)) (by first | (rw [hsu]; first | done | rfl))) [0] (by first | (rw [hsu]; first | done | rfl)) rfl (trivial)
end Go.Proofs.Ytepahnikcojepaa
