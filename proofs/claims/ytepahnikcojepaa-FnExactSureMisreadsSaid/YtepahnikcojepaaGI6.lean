/- What these functions of the program hand back, each proved by walking its operations. -/
import Derived.Test.YtepahnikcojepaaProg
import Derived.Test.YtepahnikcojepaaFw
import Derived.Test.YtepahnikcojepaaGI5
import Derived.Test.YtepahnikcojepaaGJ3
set_option linter.unusedVariables false
set_option linter.unusedSimpArgs false
set_option maxRecDepth 4000
namespace Go.Proofs.Ytepahnikcojepaa
open Go Go.Sx Go.RowKit Go.W Go.Proofs
attribute [local irreducible] Ex ExL ExD Op1 Free RetQ MutQ Reads CellO SegO LoadsAs
theorem e_54 : Enters Try.prog 54 := Enters.of Try.func54 rfl
theorem c_iSure_f (s : List Int) (hu : Nums 255 s) (As : Option Addr) (cs : Nat) (hls : s.length ≤ maxLen) (l : List VP) (Al : Option Addr) (cl : Nat) (hll : l.length ≤ maxLen) (f : VP) (hask : askS s l f = false) : Ret Try.prog 54 [.slice As s.length cs, .slice Al l.length cl, .agg (encP f).toArray] (fun w => Rd w As (s.flatMap (eI .u8)) ∧ Rd w Al (l.flatMap encP)) (fun x : Option Addr × Nat => .tuple #[.slice x.1 (sureV s l f).1.length x.2, .int .i64 (sureV s l f).2]) (fun x => [.row (.slice x.1 (sureV s l f).1.length x.2) 2 1 (sureV s l f).1.length ((sureV s l f).1.flatMap (eI .i64))]) (fun x => True) := by
  refine Ret.of e_54 Try.func54 rfl Try.ntmps54 rfl rfl (fun w hpre => ?_)
  have hs := hpre.1.base
  have hl := hpre.2.base
  have hm0 : maxLen = 9223372036854775807 := rfl
  have hsu := su_1 hask
  refine Ex.regSeq (ExL.pures 0 rfl ?_)
  refine ExL.op rfl (op_box rfl rfl rfl rfl rfl (fun b1 => ?_))
  refine ExL.pures 2 rfl ?_
  refine ExL.nil ?_
  refine Ex.regSeq (ExL.pures 2 rfl ?_)
  refine ExL.free (fr_loadN rfl rfl rfl rfl rfl (SegO.whole (i := 0) rfl)) rfl rfl rfl ?_
  refine ExL.op rfl (op_ret rfl rfl rfl (c_detOf_f s (by assumption) _ _ (by omega) l _ _ (by omega) f hask) (fun w hw => ⟨Reads.get (Reads.old hs) w hw, Reads.get (Reads.old hl) w hw⟩) rfl rfl (fun x2 hx2 => ?_))
  refine ExL.pures 1 rfl ?_
  refine ExL.nil ?_
  refine Ex.seq ?_
  refine Ex.regSeq (ExL.pures 1 rfl ?_)
  refine ExL.free (fr_eql_ptr_n rfl rfl rfl rfl) rfl rfl rfl ?_
  refine ExL.nil ?_
  refine Ex.cond_t rfl ?_
  refine Ex.regSeq (ExL.pures 2 rfl ?_)
  refine ExL.nil ?_
  refine Ex.nilRow 2 1 ?_
  refine Ex.ret ?_
  refine RetQ.mk (none, 0) rfl (.tmp rfl (.tmp rfl .nil)) (t2 (by (rw [hsu]; first | done | rfl)) (by (rw [hsu]; first | done | rfl))) [0] (by (rw [hsu]; first | done | rfl)) rfl (trivial)
theorem c_iSure_t (s : List Int) (hu : Nums 255 s) (As : Option Addr) (cs : Nat) (hls : s.length ≤ maxLen) (l : List VP) (Al : Option Addr) (cl : Nat) (hll : l.length ≤ maxLen) (f : VP) (hask : askS s l f = true) : Ret Try.prog 54 [.slice As s.length cs, .slice Al l.length cl, .agg (encP f).toArray] (fun w => Rd w As (s.flatMap (eI .u8)) ∧ Rd w Al (l.flatMap encP)) (fun x : Option Addr × Nat => .tuple #[.slice x.1 (sureV s l f).1.length x.2, .int .i64 (sureV s l f).2]) (fun x => [.row (.slice x.1 (sureV s l f).1.length x.2) 2 1 (sureV s l f).1.length ((sureV s l f).1.flatMap (eI .i64))]) (fun x => True) := by
  refine Ret.of e_54 Try.func54 rfl Try.ntmps54 rfl rfl (fun w hpre => ?_)
  have hs := hpre.1.base
  have hl := hpre.2.base
  have hm0 : maxLen = 9223372036854775807 := rfl
  obtain ⟨hL, hf⟩ := ask_of hask
  have hLl := hL.len
  refine Ex.regSeq (ExL.pures 0 rfl ?_)
  refine ExL.op rfl (op_box rfl rfl rfl rfl rfl (fun b1 => ?_))
  refine ExL.pures 2 rfl ?_
  refine ExL.nil ?_
  refine Ex.regSeq (ExL.pures 2 rfl ?_)
  refine ExL.free (fr_loadN rfl rfl rfl rfl rfl (SegO.whole (i := 0) rfl)) rfl rfl rfl ?_
  refine ExL.op rfl (op_ret rfl rfl rfl (c_detOf_t s (by assumption) _ _ (by omega) l _ _ (by omega) f hask) (fun w hw => ⟨Reads.get (Reads.old hs) w hw, Reads.get (Reads.old hl) w hw⟩) rfl rfl (fun x2 hx2 => ?_))
  refine ExL.pures 1 rfl ?_
  refine ExL.nil ?_
  refine Ex.seq ?_
  refine Ex.regSeq (ExL.pures 1 rfl ?_)
  refine ExL.free (fr_eql_ptr_s rfl rfl rfl rfl) rfl rfl rfl ?_
  refine ExL.nil ?_
  refine Ex.cond_f rfl ?_
  refine Ex.skip ?_
  refine Ex.regSeq (ExL.pures 0 rfl ?_)
  refine ExL.op rfl (op_buildSlice (sz := 1) rfl rfl rfl rfl rfl rfl rfl rfl (by decide) rfl rfl rfl (fun r3 => ?_))
  refine ExL.pures 1 rfl ?_
  refine ExL.op rfl (op_ret rfl rfl rfl (c_best (fitsF s l f) l.length (by omega) x2.K hx2.1 hx2.2 _ _ _ _ _ _ _ (-1)) (fun w hw => ⟨Reads.get (Reads.blk (i := 1) rfl) w hw, Reads.get (Reads.row (i := 2) rfl) w hw, fun k hk => Reads.get (readsX (i := 3) rfl hk) w hw⟩) rfl rfl (fun x4 hx4 => ?_))
  have hbc : x4.1.cost = (bstV (fitsF s l f) l.length l.length).cost := by have := congrArg (·.cost) hx4; rw [best_cost] at this; exact this
  refine ExL.free (fr_field rfl rfl rfl rfl rfl rfl rfl) rfl rfl rfl ?_
  refine ExL.pures 2 rfl ?_
  refine ExL.nil ?_
  refine Ex.seq ?_
  refine Ex.regSeq (ExL.pures 3 rfl ?_)
  refine ExL.nil ?_
  refine Ex.block ?_
  refine Ex.loopA (fun k A c => [(9, .slice A (sureL (fitsF s l f) l.length k).length c), (24, .int .i64 k)]) (fun k A c => [.row (.slice A (sureL (fitsF s l f) l.length k).length c) 2 1 (sureL (fitsF s l f) l.length k).length ((sureL (fitsF s l f) l.length k).flatMap (eI .i64))]) (fun k => k ≤ l.length) (fun k => l.length - k) 0 ((some ⟨r3, 0, none⟩)) (0) [(6, _), (7, _), (8, _), (10, _), (23, _)] [_, _, _] 6 [1, 2, 3, 4] ⟨rfl, rfl, trivial⟩ ⟨rfl, rfl, rfl, rfl, rfl, trivial⟩ (rfl) rfl (Nat.zero_le _) (fun k A c hI => ?_)
  have hI : k ≤ l.length := hI
  have hsl := sureL_len (fitsF s l f) l.length k
  have hwv : withV (fitsF s l f) l.length k = finV (fitsF s l f) k (fl (fitsF s l f) k) k + ((rstL (fitsF s l f) l.length).getD k zR).cost := rfl
  refine Ex.regSeq (ExL.pures 0 rfl ?_)
  refine ExL.lss rfl rfl rfl rfl rfl rfl (fun h5 => ?_) (fun h5 => ?_)
  · refine ExL.nil ?_
    refine Ex.seq ?_
    refine Ex.cond_t rfl ?_
    refine Ex.skip ?_
    refine Ex.seq ?_
    refine Ex.block ?_
    refine Ex.regSeq (ExL.pures 2 rfl ?_)
    refine ExL.nil ?_
    refine Ex.regSeq (ExL.pures 2 rfl ?_)
    refine ExL.op rfl (op_ret rfl rfl rfl (c_costWith (fitsF s l f) l.length (by omega) x2.K hx2.1 hx2.2 _ _ _ _ _ _ _ k (by omega)) (fun w hw => ⟨Reads.get (Reads.blk (i := 1) rfl) w hw, Reads.get (Reads.row (i := 2) rfl) w hw, fun k hk => Reads.get (readsX (i := 3) rfl hk) w hw⟩) rfl rfl (fun x6 hx6 => ?_))
    refine ExL.pures 1 rfl ?_
    refine ExL.gtr rfl rfl rfl rfl rfl rfl (fun h7 => ?_) (fun h7 => ?_)
    · refine ExL.nil ?_
      refine Ex.cond_t rfl ?_
      refine Ex.region (ExL.pures 2 rfl ?_)
      refine ExL.op rfl (op_buildSlice (sz := 1) rfl rfl rfl rfl rfl rfl rfl rfl (by decide) rfl rfl rfl (fun r8 => ?_))
      refine ExL.op rfl (op_append (sz := 1) (bytes := 8) (i := 1) rfl rfl rfl rfl (Reads.row (i := 0) rfl) rfl (fun e => nomatch e) rfl rfl rfl rfl (by constructor <;> first | omega | (unfold maxLen; omega)) rfl rfl (fun A9 cA9 => ?_))
      refine ExL.pures 1 rfl ?_
      refine ExL.nil ?_
      refine Ex.region (ExL.pures 0 rfl ?_)
      refine ExL.free (by first | exact fr_add64 rfl rfl rfl (by omega) | exact fr_add rfl rfl rfl) rfl rfl rfl ?_
      refine ExL.pures 1 rfl ?_
      refine ExL.nil ?_
      refine HandA.of (k + 1) (A9) (cA9) 5 [1, 2, 3, 4] ⟨(by first | (rw [sure_y (by omega), List.length_append]; rfl) | (rw [sure_n (by omega)]; first | done | rfl)), rfl, trivial⟩ ⟨rfl, rfl, rfl, rfl, rfl, trivial⟩ (by first | (rw [sure_y (by omega), List.length_append, List.flatMap_append]; rfl) | (rw [sure_n (by omega)]; first | done | rfl)) rfl (by omega) (by omega)
    · refine ExL.nil ?_
      refine Ex.cond_f rfl ?_
      refine Ex.skip ?_
      refine Ex.region (ExL.pures 0 rfl ?_)
      refine ExL.free (by first | exact fr_add64 rfl rfl rfl (by omega) | exact fr_add rfl rfl rfl) rfl rfl rfl ?_
      refine ExL.pures 1 rfl ?_
      refine ExL.nil ?_
      refine HandA.of (k + 1) (A) (c) 4 [0, 1, 2, 3] ⟨(by first | (rw [sure_y (by omega), List.length_append]; rfl) | (rw [sure_n (by omega)]; first | done | rfl)), rfl, trivial⟩ ⟨rfl, rfl, rfl, rfl, rfl, trivial⟩ (by first | (rw [sure_y (by omega), List.length_append, List.flatMap_append]; rfl) | (rw [sure_n (by omega)]; first | done | rfl)) rfl (by omega) (by omega)
  · refine ExL.nil ?_
    refine Ex.seq ?_
    refine Ex.cond_f rfl ?_
    refine Ex.exit ?_
    have hsu := su_0 (s := s) (l := l) (f := f) (k := k) hask (by omega)
    refine Ex.regSeq (ExL.pures 3 rfl ?_)
    refine ExL.nil ?_
    refine Ex.ret ?_
    refine RetQ.mk (A, c) rfl (.tmp rfl (.tmp rfl .nil)) (t2 (by first | (rw [hsu]; first | done | rfl)) (by first | (rw [hsu]; first | done | rfl))) [0] (by first | (rw [hsu]; first | done | rfl)) rfl (trivial)
theorem c_iSure (s : List Int) (hu : Nums 255 s) (As : Option Addr) (cs : Nat) (hls : s.length ≤ maxLen) (l : List VP) (Al : Option Addr) (cl : Nat) (hll : l.length ≤ maxLen) (f : VP) : Ret Try.prog 54 [.slice As s.length cs, .slice Al l.length cl, .agg (encP f).toArray] (fun w => Rd w As (s.flatMap (eI .u8)) ∧ Rd w Al (l.flatMap encP)) (fun x : Option Addr × Nat => .tuple #[.slice x.1 (sureV s l f).1.length x.2, .int .i64 (sureV s l f).2]) (fun x => [.row (.slice x.1 (sureV s l f).1.length x.2) 2 1 (sureV s l f).1.length ((sureV s l f).1.flatMap (eI .i64))]) (fun x => True) := by
  cases h : askS s l f with
  | false => exact c_iSure_f s hu As cs hls l Al cl hll f h
  | true => exact c_iSure_t s hu As cs hls l Al cl hll f h
end Go.Proofs.Ytepahnikcojepaa
