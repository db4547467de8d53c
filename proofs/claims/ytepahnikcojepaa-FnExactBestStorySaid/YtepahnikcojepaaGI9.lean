/- What these functions of the program hand back, each proved by walking its operations. -/
import Derived.Test.YtepahnikcojepaaProg
import Derived.Test.YtepahnikcojepaaFw
import Derived.Test.YtepahnikcojepaaGI8
import Derived.Test.YtepahnikcojepaaGJ5
set_option linter.unusedVariables false
set_option linter.unusedSimpArgs false
set_option maxRecDepth 4000
namespace Go.Proofs.Ytepahnikcojepaa
open Go Go.Sx Go.RowKit Go.W Go.Proofs
attribute [local irreducible] Ex ExL ExD Op1 Free RetQ MutQ Reads CellO SegO LoadsAs
theorem e_49 : Enters Try.prog 49 := Enters.of Try.func49 rfl
theorem c_iStory_f (s : List Int) (hu : Nums 255 s) (As : Option Addr) (cs : Nat) (hls : s.length ≤ maxLen) (l : List VP) (Al : Option Addr) (cl : Nat) (hll : l.length ≤ maxLen) (f : VP) (hask : askS s l f = false) : Ret Try.prog 49 [.slice As s.length cs, .slice Al l.length cl, .agg (encP f).toArray] (fun w => Rd w As (s.flatMap (eI .u8)) ∧ Rd w Al (l.flatMap encP)) (fun x : (Option Addr × Nat) × (Option Addr × Nat) => .tuple #[.agg (encY x.1.1 x.1.2 x.2.1 x.2.2 (storyV s l f).1).toArray, .int .i64 (storyV s l f).2]) (fun x => [.row (.slice x.1.1 (storyV s l f).1.kept.length x.1.2) 2 1 (storyV s l f).1.kept.length ((storyV s l f).1.kept.flatMap (eI .i64)), .row (.slice x.2.1 (storyV s l f).1.breaks.length x.2.2) 2 1 (storyV s l f).1.breaks.length ((storyV s l f).1.breaks.flatMap (eI .i64))]) (fun x => True) := by
  refine Ret.of e_49 Try.func49 rfl Try.ntmps49 rfl rfl (fun w hpre => ?_)
  have hs := hpre.1.base
  have hl := hpre.2.base
  have hm0 : maxLen = 9223372036854775807 := rfl
  have hst := sto_1 hask
  refine Ex.regSeq (ExL.pures 0 rfl ?_)
  refine ExL.op rfl (op_box rfl rfl rfl rfl rfl (fun b1 => ?_))
  refine ExL.op rfl (op_alloc rfl rfl rfl rfl rfl (fun b2 => ?_))
  refine ExL.pures 1 rfl ?_
  refine ExL.nil ?_
  refine Ex.regSeq (ExL.pures 2 rfl ?_)
  refine ExL.free (fr_loadN rfl rfl rfl rfl rfl (SegO.whole (i := 1) rfl)) rfl rfl rfl ?_
  refine ExL.op rfl (op_ret rfl rfl rfl (c_detOf_f s (by assumption) _ _ (by omega) l _ _ (by omega) f hask) (fun w hw => ⟨Reads.get (Reads.old hs) w hw, Reads.get (Reads.old hl) w hw⟩) rfl rfl (fun x3 hx3 => ?_))
  refine ExL.pures 1 rfl ?_
  refine ExL.nil ?_
  refine Ex.seq ?_
  refine Ex.regSeq (ExL.pures 1 rfl ?_)
  refine ExL.free (fr_eql_ptr_n rfl rfl rfl rfl) rfl rfl rfl ?_
  refine ExL.nil ?_
  refine Ex.cond_t rfl ?_
  refine Ex.nilRow 2 1 ?_
  refine Ex.nilRow 2 1 ?_
  refine Ex.regSeq (ExL.pures 0 rfl ?_)
  refine ExL.free (fr_build (cells := encY none 0 none 0 ⟨[], [], 0⟩) rfl rfl rfl (by kernel_rfl)) rfl rfl rfl ?_
  refine ExL.op rfl (op_storeC (i := 2) rfl rfl rfl rfl rfl rfl rfl rfl rfl rfl ?_)
  refine ExL.pures 1 rfl ?_
  refine ExL.nil ?_
  refine Ex.ret ?_
  refine RetQ.mk ((none, 0), (none, 0)) rfl (.cell rfl (.many rfl rfl rfl (SegO.whole (i := 2) rfl)) (.tmp rfl .nil)) (t2 (by rw [hst]; first | done | rfl) (vI (by rw [hst]; first | done | rfl))) [0, 1] (by rw [hst]; first | done | rfl) rfl (trivial)
theorem c_iStory_t (s : List Int) (hu : Nums 255 s) (As : Option Addr) (cs : Nat) (hls : s.length ≤ maxLen) (l : List VP) (Al : Option Addr) (cl : Nat) (hll : l.length ≤ maxLen) (f : VP) (hask : askS s l f = true) : Ret Try.prog 49 [.slice As s.length cs, .slice Al l.length cl, .agg (encP f).toArray] (fun w => Rd w As (s.flatMap (eI .u8)) ∧ Rd w Al (l.flatMap encP)) (fun x : (Option Addr × Nat) × (Option Addr × Nat) => .tuple #[.agg (encY x.1.1 x.1.2 x.2.1 x.2.2 (storyV s l f).1).toArray, .int .i64 (storyV s l f).2]) (fun x => [.row (.slice x.1.1 (storyV s l f).1.kept.length x.1.2) 2 1 (storyV s l f).1.kept.length ((storyV s l f).1.kept.flatMap (eI .i64)), .row (.slice x.2.1 (storyV s l f).1.breaks.length x.2.2) 2 1 (storyV s l f).1.breaks.length ((storyV s l f).1.breaks.flatMap (eI .i64))]) (fun x => True) := by
  refine Ret.of e_49 Try.func49 rfl Try.ntmps49 rfl rfl (fun w hpre => ?_)
  have hs := hpre.1.base
  have hl := hpre.2.base
  have hm0 : maxLen = 9223372036854775807 := rfl
  obtain ⟨hL, hf⟩ := ask_of hask
  have hLl := hL.len
  have hst := sto_0 hask
  refine Ex.regSeq (ExL.pures 0 rfl ?_)
  refine ExL.op rfl (op_box rfl rfl rfl rfl rfl (fun b1 => ?_))
  refine ExL.op rfl (op_alloc rfl rfl rfl rfl rfl (fun b2 => ?_))
  refine ExL.pures 1 rfl ?_
  refine ExL.nil ?_
  refine Ex.regSeq (ExL.pures 2 rfl ?_)
  refine ExL.free (fr_loadN rfl rfl rfl rfl rfl (SegO.whole (i := 1) rfl)) rfl rfl rfl ?_
  refine ExL.op rfl (op_ret rfl rfl rfl (c_detOf_t s (by assumption) _ _ (by omega) l _ _ (by omega) f hask) (fun w hw => ⟨Reads.get (Reads.old hs) w hw, Reads.get (Reads.old hl) w hw⟩) rfl rfl (fun x3 hx3 => ?_))
  refine ExL.pures 1 rfl ?_
  refine ExL.nil ?_
  refine Ex.seq ?_
  refine Ex.regSeq (ExL.pures 1 rfl ?_)
  refine ExL.free (fr_eql_ptr_s rfl rfl rfl rfl) rfl rfl rfl ?_
  refine ExL.nil ?_
  refine Ex.cond_f rfl ?_
  refine Ex.skip ?_
  refine Ex.regSeq (ExL.pures 1 rfl ?_)
  refine ExL.op rfl (op_ret rfl rfl rfl (c_best2 (fitsF s l f) l.length (by omega) x3.K hx3.1 hx3.2 _ _ _ _ _ _ _ (-1)) (fun w hw => ⟨Reads.get (Reads.blk (i := 0) rfl) w hw, Reads.get (Reads.row (i := 1) rfl) w hw, fun k hk => Reads.get (readsX (i := 2) rfl hk) w hw⟩) rfl rfl (fun x4 hx4 => ?_))
  obtain ⟨hbt, hok⟩ := hx4
  have hkt : x4.1.xs = (stK (fitsF s l f) l.length) := by have := congrArg (·.kept) hbt; rw [best_same.2] at this; exact this
  have hbc : x4.1.cost = (bstV (fitsF s l f) l.length l.length).cost := by have := congrArg (·.cost) hbt; rw [best_same.1] at this; exact this
  have hen : encPl x4.1 = [.int .i64 (bstV (fitsF s l f) l.length l.length).cost, .int .i64 x4.1.breaks, .slice x4.1.A (stK (fitsF s l f) l.length).length x4.1.c] := by unfold encPl; rw [hbc, hkt]
  rw [hen]
  refine ExL.op rfl (op_alloc rfl rfl rfl rfl rfl (fun b5 => ?_))
  refine ExL.op rfl (op_storeC (i := 0) rfl rfl rfl rfl rfl rfl rfl rfl rfl rfl ?_)
  refine ExL.nil ?_
  refine Ex.conv (liftOk hok (perm_at (i := 1) rfl)) ?_
  rw [hkt]
  have hkl := stK_len (fitsF s l f) l.length
  refine Ex.regSeq (ExL.pures 1 rfl ?_)
  refine ExL.free (fr_load rfl rfl rfl rfl (CellO.blk (i := 1) rfl rfl)) rfl rfl rfl ?_
  refine ExL.pures 1 rfl ?_
  refine ExL.free (fr_load rfl rfl rfl rfl (CellO.blk (i := 1) rfl rfl)) rfl rfl rfl ?_
  refine ExL.free (fr_build (cells := [.slice x4.1.A (stK (fitsF s l f) l.length).length x4.1.c, .slice none 0 0, .int .i64 (bstV (fitsF s l f) l.length l.length).cost]) rfl rfl rfl (by kernel_rfl)) rfl rfl rfl ?_
  refine ExL.op rfl (op_alloc rfl rfl rfl rfl rfl (fun b6 => ?_))
  refine ExL.op rfl (op_storeC (i := 0) rfl rfl rfl rfl rfl rfl rfl rfl rfl rfl ?_)
  refine ExL.nil ?_
  refine Ex.seq ?_
  refine Ex.regSeq (ExL.pures 1 rfl ?_)
  refine ExL.nil ?_
  refine Ex.block ?_
  refine Ex.nilRow 2 1 ?_
  refine Ex.loopK (X := Nat × Option Addr × Nat) (fun q => [(11, .int .i64 ((q.1 : Int) + 1))]) (fun q => [.blk b6 [.slice x4.1.A (stK (fitsF s l f) l.length).length x4.1.c, .slice q.2.1 (pL (fitsF s l f) (stK (fitsF s l f) l.length) q.1).length q.2.2, .int .i64 (bstV (fitsF s l f) l.length l.length).cost] 69, .row (.slice q.2.1 (pL (fitsF s l f) (stK (fitsF s l f) l.length) q.1).length q.2.2) 2 1 (pL (fitsF s l f) (stK (fitsF s l f) l.length) q.1).length ((pL (fitsF s l f) (stK (fitsF s l f) l.length) q.1).flatMap (eI .i64))]) (fun q => q.1 + 1 ≤ (stK (fitsF s l f) l.length).length ∨ q.1 = 0) (fun q => (stK (fitsF s l f) l.length).length - q.1) (0, (none, 0)) [(6, _), (7, _), (8, _), (9, _), (10, _)] [_, _, _, _, _, _] 9 [1, 0, 2, 3, 4, 5, 6, 7] ⟨agI (by omega), trivial⟩ ⟨rfl, rfl, rfl, rfl, rfl, trivial⟩ (rfl) rfl (.inr rfl) (fun q hI => ?_)
  have hI : q.1 + 1 ≤ (stK (fitsF s l f) l.length).length ∨ q.1 = 0 := hI
  have hpl := pL_len (fit := (fitsF s l f)) (K := (stK (fitsF s l f) l.length)) q.1
  refine Ex.seq ?_
  refine Ex.regSeq (ExL.pures 2 rfl ?_)
  refine ExL.free (fr_load rfl rfl rfl rfl (CellO.blk (i := 3) rfl rfl)) rfl rfl rfl ?_
  refine ExL.pures 1 rfl ?_
  refine ExL.lss rfl rfl rfl rfl rfl rfl (fun h7 => ?_) (fun h7 => ?_)
  · refine ExL.nil ?_
    refine Ex.cond_t rfl ?_
    refine Ex.skip ?_
    refine Ex.seq ?_
    refine Ex.block ?_
    obtain ⟨a, b_, ha, hb, hab, hbn⟩ := stK_nat (fit := (fitsF s l f)) (n := l.length) (k := q.1) (by omega)
    obtain ⟨hxl, hbe⟩ := canK_bool hx3.2 (i := a) (j := b_) (by omega) hab hbn
    have hdl := hx3.1
    refine Ex.drawSeqM rfl ?_
    refine ExD.take (i := 0) rfl (by kernel_rfl) (pureVal_ok rfl) ((List.Sublist.refl _)) rfl rfl rfl ?_
    refine ExD.take (i := 1) rfl (by kernel_rfl) (pureVal_ok rfl) ((List.Sublist.refl _)) rfl rfl rfl ?_
    refine ExD.take (i := 2) rfl (by kernel_rfl) (pureVal_ok rfl) ((List.Sublist.refl _)) rfl rfl rfl ?_
    refine ExD.take (i := 3) rfl (by kernel_rfl) (fr_load rfl rfl rfl rfl (CellO.blk (i := 4) rfl rfl)) ((List.Sublist.refl _)) rfl rfl rfl ?_
    refine ExD.take (i := 4) rfl (by kernel_rfl) (pureVal_ok rfl) ((List.Sublist.refl _)) rfl rfl rfl ?_
    refine ExD.take (i := 5) rfl (by kernel_rfl) (fr_load rfl rfl rfl rfl (CellO.blk (i := 3) rfl rfl)) ((List.Sublist.refl _)) rfl rfl rfl ?_
    refine ExD.take (i := 6) rfl (by kernel_rfl) (pureVal_ok rfl) ((List.Sublist.refl _)) rfl rfl rfl ?_
    refine ExD.take (i := 7) rfl (by kernel_rfl) (by first | exact fr_sub64 rfl rfl rfl (by omega) | exact fr_sub rfl rfl rfl) ((List.Sublist.refl _)) rfl rfl rfl ?_
    refine ExD.take (i := 8) rfl (by kernel_rfl) (fr_indexAddrR (sz := 1) 2 rfl rfl rfl rfl rfl rfl (by omega)) ((List.Sublist.refl _)) rfl rfl rfl ?_
    refine ExD.take (i := 9) rfl (by kernel_rfl) (fr_load (v := .int .i64 (a : Int)) rfl rfl rfl rfl (cellJ (i := ((q.1 : Int) + 1 - 1)) q.1 (Reads.row (i := 2) rfl) (eI_len .i64) 0 0 rfl (by omega) (by omega) (by show some (Value.int .i64 _) = _; rw [ha]))) ((List.Sublist.refl _)) rfl rfl rfl ?_
    refine ExD.take (i := 10) rfl (by kernel_rfl) (fr_indexAddr (sz := 1) rfl rfl rfl rfl rfl rfl (by omega)) ((List.Sublist.refl _)) rfl rfl rfl ?_
    refine ExD.take (i := 11) rfl (by kernel_rfl) (fr_load rfl rfl rfl rfl (by first | exact cellN (Reads.row (i := 5) rfl) encX_len zX 0 rfl (by omega) rfl | exact cellF (Reads.row (i := 5) rfl) encX_len zX 0 rfl (by omega) rfl)) ((List.Sublist.refl _)) rfl rfl rfl ?_
    refine ExD.take (i := 12) rfl (by kernel_rfl) (pureVal_ok rfl) ((List.Sublist.refl _)) rfl rfl rfl ?_
    refine ExD.take (i := 13) rfl (by kernel_rfl) (fr_load rfl rfl rfl rfl (CellO.blk (i := 3) rfl rfl)) ((List.Sublist.refl _)) rfl rfl rfl ?_
    refine ExD.take (i := 14) rfl (by kernel_rfl) (pureVal_ok rfl) ((List.Sublist.refl _)) rfl rfl rfl ?_
    refine ExD.take (i := 15) rfl (by kernel_rfl) (fr_indexAddrR (sz := 1) 2 rfl rfl rfl rfl rfl rfl (by omega)) ((List.Sublist.refl _)) rfl rfl rfl ?_
    refine ExD.take (i := 16) rfl (by kernel_rfl) (fr_load (v := .int .i64 (b_ : Int)) rfl rfl rfl rfl (cellJ (i := ((q.1 : Int) + 1)) (q.1 + 1) (Reads.row (i := 2) rfl) (eI_len .i64) 0 0 rfl (by omega) (by omega) (by show some (Value.int .i64 _) = _; rw [hb]))) ((List.Sublist.refl _)) rfl rfl rfl ?_
    refine ExD.take (i := 17) rfl (by kernel_rfl) (fr_indexAddrF (readsX (i := 6) rfl (k := a) (by omega)) eB_len rfl rfl rfl rfl rfl rfl (by omega)) ((List.Sublist.refl _)) rfl rfl rfl ?_
    refine ExD.take (i := 18) rfl (by kernel_rfl) (fr_load rfl rfl rfl rfl (by first | exact cellN (readsX (i := 6) rfl (k := a) (by omega)) eB_len false 0 rfl (by omega) rfl | exact cellF (readsX (i := 6) rfl (k := a) (by omega)) eB_len false 0 rfl (by omega) rfl)) ((List.Sublist.refl _)) rfl rfl rfl ?_
    refine ExD.take (i := 19) rfl (by kernel_rfl) (pureVal_ok rfl) ((List.Sublist.refl _)) rfl rfl rfl ?_
    refine ExD.done (by kernel_rfl) ?_
    refine Ex.cond rfl (fun hb8 => ?_) (fun hb8 => ?_)
    · replace hb8 := nb_t hb8
      refine Ex.drawI [0, 2, 3, 4, 5, 6, 7] rfl rfl ?_
      refine ExD.take (i := 0) rfl (by kernel_rfl) (pureVal_ok rfl) ((List.Sublist.cons_cons _ (List.Sublist.cons _ (List.Sublist.refl _)))) rfl rfl rfl ?_
      refine ExD.take (i := 1) rfl (by kernel_rfl) (fr_load rfl rfl rfl rfl (CellO.blk (i := 0) rfl rfl)) ((List.Sublist.cons_cons _ (List.Sublist.cons _ (List.Sublist.refl _)))) rfl rfl rfl ?_
      refine ExD.take (i := 2) rfl (by kernel_rfl) (pureVal_ok rfl) ((List.Sublist.cons_cons _ (List.Sublist.cons _ (List.Sublist.refl _)))) rfl rfl rfl ?_
      refine ExD.take (i := 3) rfl (by kernel_rfl) (fr_load rfl rfl rfl rfl (CellO.blk (i := 2) rfl rfl)) ((List.Sublist.cons_cons _ (List.Sublist.cons _ (List.Sublist.refl _)))) rfl rfl rfl ?_
      refine ExD.take (i := 4) rfl (by kernel_rfl) (pureVal_ok rfl) ((List.Sublist.cons_cons _ (List.Sublist.cons _ (List.Sublist.refl _)))) rfl rfl rfl ?_
      refine ExD.take (i := 5) rfl (by kernel_rfl) (fr_indexAddrR (sz := 1) 1 rfl rfl rfl rfl rfl rfl (by omega)) ((List.Sublist.cons_cons _ (List.Sublist.cons _ (List.Sublist.refl _)))) rfl rfl rfl ?_
      refine ExD.take (i := 6) rfl (by kernel_rfl) (fr_load rfl rfl rfl rfl (cellJ (i := ((q.1 : Int) + 1)) (q.1 + 1) (Reads.row (i := 1) rfl) (eI_len .i64) 0 0 rfl (by omega) (by omega) rfl)) ((List.Sublist.cons_cons _ (List.Sublist.cons _ (List.Sublist.refl _)))) rfl rfl rfl ?_
      refine ExD.op (i := 7) rfl (by kernel_rfl) rfl (op_buildSlice (sz := 1) rfl rfl rfl rfl rfl rfl rfl rfl (by decide) rfl rfl rfl (fun r9 => ⟨(List.Sublist.cons _ (List.Sublist.cons_cons _ (List.Sublist.cons _ (List.Sublist.refl _)))), ?_⟩))
      refine ExD.op (i := 8) rfl (by kernel_rfl) rfl (op_append (sz := 1) (bytes := 8) (i := 2) rfl rfl rfl rfl (Reads.row (i := 0) rfl) rfl (fun e => nomatch e) rfl rfl rfl rfl (by constructor <;> first | omega | (unfold maxLen; omega)) rfl rfl (fun A10 cA10 => ⟨(List.Sublist.cons _ (List.Sublist.cons_cons _ (List.Sublist.cons _ (List.Sublist.refl _)))), ?_⟩))
      refine ExD.take (i := 9) rfl (by kernel_rfl) (pureVal_ok rfl) ((List.Sublist.cons _ (List.Sublist.cons_cons _ (List.Sublist.cons _ (List.Sublist.refl _))))) rfl rfl rfl ?_
      refine ExD.last (i := 10) rfl (by kernel_rfl) (by kernel_rfl) rfl (op_storeC (i := 1) rfl rfl rfl rfl rfl rfl rfl rfl rfl rfl ?_)
      refine ExD.done (by kernel_rfl) ?_
      refine Ex.region (ExL.pures 1 rfl ?_)
      refine ExL.free (by first | exact fr_add64 rfl rfl rfl (by omega) | exact fr_add rfl rfl rfl) rfl rfl rfl ?_
      refine ExL.pures 1 rfl ?_
      refine ExL.nil ?_
      refine Hand.mk ((q.1 + 1, (A10, cA10))) 9 [1, 2, 3, 4, 5, 6, 7, 8] ⟨agI (by push_cast; omega), trivial⟩ ⟨rfl, rfl, rfl, rfl, rfl, trivial⟩ (by first | (rw [pL_y ha hb (by rw [← hbe]; assumption), List.length_append, List.flatMap_append]; rfl) | (rw [pL_n ha hb (by rw [← hbe]; assumption)]; first | done | rfl)) rfl ((by dsimp only; omega)) ((by dsimp only; omega))
    · replace hb8 := nb_f hb8
      refine Ex.skip ?_
      refine Ex.region (ExL.pures 1 rfl ?_)
      refine ExL.free (by first | exact fr_add64 rfl rfl rfl (by omega) | exact fr_add rfl rfl rfl) rfl rfl rfl ?_
      refine ExL.pures 1 rfl ?_
      refine ExL.nil ?_
      refine Hand.mk ((q.1 + 1, (q.2.1, q.2.2))) 8 [0, 1, 2, 3, 4, 5, 6, 7] ⟨agI (by push_cast; omega), trivial⟩ ⟨rfl, rfl, rfl, rfl, rfl, trivial⟩ (by first | (rw [pL_y ha hb (by rw [← hbe]; assumption), List.length_append, List.flatMap_append]; rfl) | (rw [pL_n ha hb (by rw [← hbe]; assumption)]; first | done | rfl)) rfl ((by dsimp only; omega)) ((by dsimp only; omega))
  · refine ExL.nil ?_
    refine Ex.cond_f rfl ?_
    refine Ex.exit ?_
    have hpa := pL_all (fit := (fitsF s l f)) (n := l.length) (k := q.1) (by omega) hI
    rw [hpa]
    refine Ex.regSeq (ExL.pures 0 rfl ?_)
    refine ExL.free (fr_loadN rfl rfl rfl rfl rfl (SegO.whole (i := 0) rfl)) rfl rfl rfl ?_
    refine ExL.op rfl (op_storeC (i := 7) rfl rfl rfl rfl rfl rfl rfl rfl rfl rfl ?_)
    refine ExL.pures 1 rfl ?_
    refine ExL.nil ?_
    refine Ex.ret ?_
    refine RetQ.mk ((x4.1.A, x4.1.c), (q.2.1, q.2.2)) rfl (.cell rfl (.many rfl rfl rfl (SegO.whole (i := 7) rfl)) (.tmp rfl .nil)) (t2 (by rw [hst]; first | done | rfl) (vI (by rw [hst]; first | done | rfl))) [2, 1] (by rw [hst]; first | done | rfl) rfl (trivial)
end Go.Proofs.Ytepahnikcojepaa
