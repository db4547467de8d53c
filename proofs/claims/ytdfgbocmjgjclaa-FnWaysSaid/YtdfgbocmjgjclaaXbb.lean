/- Several texts, one behind the other. -/
import Derived.Test.YtdfgbocmjgjclaaProg
import Derived.Test.YtdfgbocmjgjclaaXaa
import Derived.Test.YtdfgbocmjgjclaaXab
import Derived.Test.YtdfgbocmjgjclaaXba
/- What these functions of the program hand back, each proved by walking its operations. -/
set_option linter.unusedVariables false
set_option linter.unusedSimpArgs false
set_option maxRecDepth 4000
namespace Go.Proofs.Ytdfgbocmjgjclaa
open Go Go.Sx Go.RowKit Go.W Go.Proofs
attribute [local irreducible] Ex ExL ExD Op1 Free RetQ MutQ Reads CellO SegO LoadsAs
theorem e_25 : Enters Try.prog 25 := Enters.of Try.func25 rfl
theorem c_filmOf_t (s : List Int) (hu : Nums 255 s) (As : Option Addr) (cs : Nat) (hls : s.length ≤ maxLen) (L : List VPh) (hLk : ∀ k, k < L.length → OkPh (L.getD k zPh)) (bl cL : Nat) (hlL : L.length ≤ maxLen) (lo hi us : Int) (hc0 : codeF s L lo hi us = 0) : Ret Try.prog 25 [.slice As s.length cs, .slice (some ⟨bl, 0, none⟩) L.length cL, .int .i64 lo, .int .i64 hi, .int .i64 us] (fun w => Rd w As (s.flatMap (eI .u8)) ∧ Rd w (some ⟨bl, 0, none⟩) (L.flatMap encPh)) (fun x : FX => .tuple #[.pointer (some ⟨x.b, 0, none⟩), .int .i64 0]) (fun x => [.blk x.b [.slice x.A x.K.length x.c, .int .i64 lo, .int .i64 hi] 60, .row (.slice x.A x.K.length x.c) 26 1 x.K.length (x.K.flatMap encX), .pile (x.K.map (rwX (eI .i64) 2 1))]) (fun x => x.K.map (·.xs) = filmL s L) := by
  refine Ret.of e_25 Try.func25 rfl Try.ntmps25 rfl rfl (fun w hpre => ?_)
  have hs := hpre.1.base
  have hLr := hpre.2.base
  have hm0 : maxLen = 9223372036854775807 := rfl
  obtain ⟨hv, hnb, hrg, hmy⟩ := cf_of hc0
  have hS := stk hv
  have hLp := okLp hLk hv hnb
  have hsb0 := hs
  refine Ex.regSeq (ExL.pures 0 rfl ?_)
  refine ExL.op rfl (op_box rfl rfl rfl rfl rfl (fun b1 => ?_))
  refine ExL.pures 2 rfl ?_
  refine ExL.nil ?_
  refine Ex.seq ?_
  refine Ex.regSeq (ExL.pures 0 rfl ?_)
  refine ExL.free (fr_load rfl rfl rfl rfl (CellO.blk (i := 0) rfl rfl)) rfl rfl rfl ?_
  refine ExL.op rfl (op_ret rfl rfl rfl (c_ValidStack _ (by assumption) _ _ (by first | assumption | omega | (unfold maxLen; omega))) (Reads.get (Reads.old hs)) rfl rfl (fun x2 hx2 => ?_))
  refine ExL.pures 2 rfl ?_
  refine ExL.bool (d := 18) rfl (fun hb3 => ?_) (fun hb3 => ?_)
  · replace hb3 := nb_t hb3
    refine ExL.pures 4 rfl ?_
    refine ExL.nil ?_
    refine Ex.cond_t rfl ?_
    exfalso; simp_all
  · replace hb3 := nb_f hb3
    refine ExL.pures 1 rfl ?_
    refine ExL.free (fr_makeFunc rfl rfl rfl) rfl rfl rfl ?_
    refine ExL.op rfl (op_ret rfl rfl rfl (c_plContainsFunc s (by first | exact hv | assumption) As cs _ L hLk _ _ (by omega)) (fun w hw => ⟨Reads.get (Reads.old hLr) w hw, Reads.get (Reads.blk (i := 0) rfl) w hw, Reads.get (Reads.old hs) w hw⟩) rfl rfl (fun x4 hx4 => ?_))
    refine ExL.pures 1 rfl ?_
    refine ExL.nil ?_
    refine Ex.cond rfl (fun hb5 => ?_) (fun hb5 => ?_)
    · exfalso; simp_all
    · refine Ex.skip ?_
      refine Ex.seq ?_
      refine Ex.regSeq (ExL.pures 2 rfl ?_)
      refine ExL.op rfl (op_ret rfl rfl rfl (c_within _ _ _) (fun _ _ => trivial) rfl rfl (fun x6 hx6 => ?_))
      refine ExL.pures 2 rfl ?_
      refine ExL.bool (d := 27) rfl (fun hb7 => ?_) (fun hb7 => ?_)
      · replace hb7 := nd_t hb7
        refine ExL.pures 19 rfl ?_
        refine ExL.nil ?_
        refine Ex.cond_t rfl ?_
        exfalso; omega
      · replace hb7 := nd_f hb7
        refine ExL.pures 1 rfl ?_
        refine ExL.lss rfl rfl rfl rfl rfl rfl (fun h8 => ?_) (fun h8 => ?_)
        · refine ExL.pures 17 rfl ?_
          refine ExL.nil ?_
          refine Ex.cond_t rfl ?_
          exfalso; omega
        · refine ExL.pures 4 rfl ?_
          refine ExL.gtr rfl rfl rfl rfl rfl rfl (fun h9 => ?_) (fun h9 => ?_)
          · refine ExL.pures 12 rfl ?_
            refine ExL.nil ?_
            refine Ex.cond_t rfl ?_
            exfalso; omega
          · refine ExL.pures 3 rfl ?_
            refine ExL.gtr rfl rfl rfl rfl rfl rfl (fun h10 => ?_) (fun h10 => ?_)
            · refine ExL.pures 8 rfl ?_
              refine ExL.nil ?_
              refine Ex.cond_t rfl ?_
              exfalso; omega
            · refine ExL.pures 5 rfl ?_
              refine ExL.op rfl (op_ret rfl rfl rfl (c_within _ _ _) (fun _ _ => trivial) rfl rfl (fun x11 hx11 => ?_))
              refine ExL.pures 2 rfl ?_
              refine ExL.nil ?_
              refine Ex.cond rfl (fun hb12 => ?_) (fun hb12 => ?_)
              · replace hb12 := nd_t hb12
                exfalso; omega
              · replace hb12 := nd_f hb12
                refine Ex.skip ?_
                refine Ex.regSeq (ExL.pures 2 rfl ?_)
                refine ExL.free (fr_build rfl rfl rfl rfl) rfl rfl rfl ?_
                refine ExL.op rfl (op_box rfl rfl rfl rfl rfl (fun b13 => ?_))
                refine ExL.pures 1 rfl ?_
                refine ExL.nil ?_
                refine Ex.seq ?_
                refine Ex.nilRow 26 1 ?_
                refine Ex.pile0 ?_
                refine Ex.regSeq (ExL.pures 3 rfl ?_)
                refine ExL.nil ?_
                refine Ex.block ?_
                refine Ex.loopK (X := FSt) (fun q => [(53, .int .i64 q.K.length)]) (fun q => [.blk b13 [.slice q.A q.K.length q.c, .int .i64 lo, .int .i64 hi] 60, .row (.slice q.A q.K.length q.c) 26 1 q.K.length (q.K.flatMap encX), .pile (q.K.map (rwX (eI .i64) 2 1))]) (fun q => q.K.length ≤ L.length ∧ q.K.map (·.xs) = (filmL s L).take q.K.length ∧ ∀ i, i < q.K.length → decide (400 < choV (L.getD i zPh).l s.length) = false) (fun q => L.length - q.K.length) ⟨none, 0, []⟩ [(5, _), (12, _), (51, _), (52, _)] [_] 4 [2, 1, 0, 3] ⟨rfl, trivial⟩ ⟨rfl, rfl, rfl, rfl, trivial⟩ (rfl) rfl ⟨Nat.zero_le _, rfl, fun i hi => by simp at hi⟩ (fun q hI => ?_)
                have hI : q.K.length ≤ L.length ∧ q.K.map (·.xs) = (filmL s L).take q.K.length ∧ ∀ i, i < q.K.length → decide (400 < choV (L.getD i zPh).l s.length) = false := hI
                obtain ⟨hK, hKm, hall⟩ := hI
                refine Ex.regSeq (ExL.pures 0 rfl ?_)
                refine ExL.lss rfl rfl rfl rfl rfl rfl (fun h14 => ?_) (fun h14 => ?_)
                · refine ExL.nil ?_
                  refine Ex.seq ?_
                  refine Ex.cond_t rfl ?_
                  refine Ex.skip ?_
                  refine Ex.seq ?_
                  refine Ex.block ?_
                  refine Ex.regSeq (ExL.pures 0 rfl ?_)
                  refine ExL.free (fr_indexAddrF (Reads.old hLr) encPh_len rfl rfl rfl rfl rfl rfl (by omega)) rfl rfl rfl ?_
                  refine ExL.free (fr_loadN rfl rfl rfl rfl rfl (by first | exact segN (Reads.old hLr) encPh_len rfl zPh (by omega) | exact segF (Reads.old hLr) encPh_len rfl zPh (by omega))) rfl rfl rfl ?_
                  refine ExL.op rfl (op_alloc rfl rfl rfl rfl rfl (fun b15 => ?_))
                  refine ExL.op rfl (op_storeC (i := 0) rfl rfl rfl rfl rfl rfl rfl rfl rfl rfl ?_)
                  refine ExL.nil ?_
                  refine Ex.seq ?_
                  refine Ex.regSeq (ExL.pures 0 rfl ?_)
                  refine ExL.free (fr_load rfl rfl rfl rfl (CellO.blk (i := 4) rfl rfl)) rfl rfl rfl ?_
                  refine ExL.pures 1 rfl ?_
                  refine ExL.op rfl (op_ret rfl rfl rfl (c_choices s (by first | assumption | exact stk (by assumption)) (L.getD q.K.length zPh) (hLp _ (by omega)) (hLk _ (by omega)) _ _ s.length (by omega)) (Reads.get (Reads.blk (i := 0) rfl)) rfl rfl (fun x16 hx16 => ?_))
                  refine ExL.gtr rfl rfl rfl rfl rfl rfl (fun h17 => ?_) (fun h17 => ?_)
                  · refine ExL.nil ?_
                    refine Ex.cond_t rfl ?_
                    have h9 := any_at (d := zPh) hmy (k := q.K.length) (by omega)
                    rw [decide_eq_false_iff_not] at h9
                    exfalso; omega
                  · refine ExL.nil ?_
                    refine Ex.cond_f rfl ?_
                    refine Ex.skip ?_
                    refine Ex.drawI [0, 3, 4] rfl rfl ?_
                    refine ExD.take (i := 0) rfl (by kernel_rfl) (pureVal_ok rfl) ((List.Sublist.cons_cons _ (List.Sublist.cons _ (List.Sublist.cons _ (List.Sublist.refl _))))) rfl rfl rfl ?_
                    refine ExD.take (i := 1) rfl (by kernel_rfl) (pureVal_ok rfl) ((List.Sublist.cons_cons _ (List.Sublist.cons _ (List.Sublist.cons _ (List.Sublist.refl _))))) rfl rfl rfl ?_
                    refine ExD.take (i := 2) rfl (by kernel_rfl) (pureVal_ok rfl) ((List.Sublist.cons_cons _ (List.Sublist.cons _ (List.Sublist.cons _ (List.Sublist.refl _))))) rfl rfl rfl ?_
                    refine ExD.take (i := 3) rfl (by kernel_rfl) (pureVal_ok rfl) ((List.Sublist.cons_cons _ (List.Sublist.cons _ (List.Sublist.cons _ (List.Sublist.refl _))))) rfl rfl rfl ?_
                    refine ExD.take (i := 5) rfl (by kernel_rfl) (fr_load rfl rfl rfl rfl (CellO.blk (i := 2) rfl rfl)) ((List.Sublist.cons_cons _ (List.Sublist.cons _ (List.Sublist.cons _ (List.Sublist.refl _))))) rfl rfl rfl ?_
                    refine ExD.take (i := 6) rfl (by kernel_rfl) (fr_loadN rfl rfl rfl rfl rfl (SegO.whole (i := 0) rfl)) ((List.Sublist.cons_cons _ (List.Sublist.cons _ (List.Sublist.cons _ (List.Sublist.refl _))))) rfl rfl rfl ?_
                    refine ExD.fork (i := 4) (j := 7) rfl rfl (by kernel_rfl) rfl rfl (Op1.of_free (fr_load rfl rfl rfl rfl (CellO.blk (i := 1) rfl rfl)) rfl rfl ⟨(List.Sublist.cons_cons _ (List.Sublist.cons _ (List.Sublist.cons _ (List.Sublist.refl _)))), ?_⟩) (op_ret rfl rfl rfl (c_values s (by first | assumption | simp_all) _ _ (L.getD q.K.length zPh) (hLk _ (by omega)) (hLp _ (by omega))) (Reads.get (Reads.old hs)) rfl rfl (fun x18 hx18 => ⟨(List.Sublist.cons _ (List.Sublist.cons_cons _ (List.Sublist.cons _ (List.Sublist.cons _ (List.Sublist.refl _))))), ?_⟩))
                    · refine ExD.op (i := 7) rfl (by kernel_rfl) rfl (op_ret rfl rfl rfl (c_values s (by first | assumption | simp_all) _ _ (L.getD q.K.length zPh) (hLk _ (by omega)) (hLp _ (by omega))) (Reads.get (Reads.old hs)) rfl rfl (fun x19 hx19 => ⟨(List.Sublist.cons _ (List.Sublist.cons_cons _ (List.Sublist.cons _ (List.Sublist.cons _ (List.Sublist.refl _))))), ?_⟩))
                      refine ExD.op (i := 8) rfl (by kernel_rfl) rfl (op_buildSlice (sz := 1) rfl rfl rfl rfl rfl rfl rfl rfl (by decide) rfl rfl rfl (fun r20 => ⟨(List.Sublist.cons _ (List.Sublist.cons _ (List.Sublist.cons_cons _ (List.Sublist.cons _ (List.Sublist.cons _ (List.Sublist.refl _)))))), ?_⟩))
                      refine ExD.op (i := 9) rfl (by kernel_rfl) rfl (op_append (sz := 1) (bytes := 24) (i := 4) rfl rfl rfl rfl (Reads.row (i := 0) rfl) rfl (fun e => nomatch e) rfl rfl rfl rfl (by constructor <;> first | omega | (unfold maxLen; omega)) rfl rfl (fun A21 cA21 => ⟨(List.Sublist.cons _ (List.Sublist.cons _ (List.Sublist.cons_cons _ (List.Sublist.cons _ (List.Sublist.cons _ (List.Sublist.refl _)))))), ?_⟩))
                      refine ExD.take (i := 10) rfl (by kernel_rfl) (pureVal_ok rfl) ((List.Sublist.cons _ (List.Sublist.cons _ (List.Sublist.cons_cons _ (List.Sublist.cons _ (List.Sublist.cons _ (List.Sublist.refl _))))))) rfl rfl rfl ?_
                      refine ExD.take (i := 11) rfl (by kernel_rfl) (pureVal_ok rfl) ((List.Sublist.cons _ (List.Sublist.cons _ (List.Sublist.cons_cons _ (List.Sublist.cons _ (List.Sublist.cons _ (List.Sublist.refl _))))))) rfl rfl rfl ?_
                      refine ExD.op (i := 12) rfl (by kernel_rfl) rfl (op_storeC (i := 3) rfl rfl rfl rfl rfl rfl rfl rfl rfl rfl ⟨(List.Sublist.cons _ (List.Sublist.cons _ (List.Sublist.cons_cons _ (List.Sublist.cons _ (List.Sublist.cons _ (List.Sublist.refl _)))))), ?_⟩)
                      refine ExD.done (by kernel_rfl) ?_
                      refine Ex.conv (layEnd (perm_lt (i := 1) (j := 5) rfl rfl rfl)) ?_
                      refine Ex.region (ExL.pures 0 rfl ?_)
                      refine ExL.free (by first | exact fr_add64 rfl rfl rfl (by omega) | exact fr_add rfl rfl rfl) rfl rfl rfl ?_
                      refine ExL.pures 1 rfl ?_
                      refine ExL.nil ?_
                      have hKn : (q.K ++ [(⟨x19.1, x19.2, valsP s (L.getD q.K.length zPh)⟩ : VX Int)]).length = q.K.length + 1 := by simp
                      refine Hand.mk (⟨A21, cA21, q.K ++ [(⟨x19.1, x19.2, valsP s (L.getD q.K.length zPh)⟩ : VX Int)]⟩) 6 [3, 4, 0, 5] ⟨agI (by first | rfl | (simp; done) | (dsimp only; rw [hKn]; rfl)), trivial⟩ ⟨rfl, rfl, rfl, rfl, trivial⟩ (by first | rfl | (simp only [List.map_append, List.flatMap_append, hKn]; rfl)) rfl (⟨by dsimp only; omega, kx_step hKm (by omega) rfl, by dsimp only; rw [hKn]; exact all_snoc hall (by first | exact decide_eq_false (by omega) | (simp; omega))⟩) (by dsimp only; omega)
                    · refine ExD.fork (i := 4) (j := 8) rfl rfl (by kernel_rfl) rfl rfl (Op1.of_free (fr_load rfl rfl rfl rfl (CellO.blk (i := 2) rfl rfl)) rfl rfl ⟨(List.Sublist.cons _ (List.Sublist.cons_cons _ (List.Sublist.cons _ (List.Sublist.cons _ (List.Sublist.refl _))))), ?_⟩) (op_buildSlice (sz := 1) rfl rfl rfl rfl rfl rfl rfl rfl (by decide) rfl rfl rfl (fun r23 => ⟨(List.Sublist.cons _ (List.Sublist.cons _ (List.Sublist.cons_cons _ (List.Sublist.cons _ (List.Sublist.cons _ (List.Sublist.refl _)))))), ?_⟩))
                      · refine ExD.op (i := 8) rfl (by kernel_rfl) rfl (op_buildSlice (sz := 1) rfl rfl rfl rfl rfl rfl rfl rfl (by decide) rfl rfl rfl (fun r24 => ⟨(List.Sublist.cons _ (List.Sublist.cons _ (List.Sublist.cons_cons _ (List.Sublist.cons _ (List.Sublist.cons _ (List.Sublist.refl _)))))), ?_⟩))
                        refine ExD.op (i := 9) rfl (by kernel_rfl) rfl (op_append (sz := 1) (bytes := 24) (i := 4) rfl rfl rfl rfl (Reads.row (i := 0) rfl) rfl (fun e => nomatch e) rfl rfl rfl rfl (by constructor <;> first | omega | (unfold maxLen; omega)) rfl rfl (fun A25 cA25 => ⟨(List.Sublist.cons _ (List.Sublist.cons _ (List.Sublist.cons_cons _ (List.Sublist.cons _ (List.Sublist.cons _ (List.Sublist.refl _)))))), ?_⟩))
                        refine ExD.take (i := 10) rfl (by kernel_rfl) (pureVal_ok rfl) ((List.Sublist.cons _ (List.Sublist.cons _ (List.Sublist.cons_cons _ (List.Sublist.cons _ (List.Sublist.cons _ (List.Sublist.refl _))))))) rfl rfl rfl ?_
                        refine ExD.take (i := 11) rfl (by kernel_rfl) (pureVal_ok rfl) ((List.Sublist.cons _ (List.Sublist.cons _ (List.Sublist.cons_cons _ (List.Sublist.cons _ (List.Sublist.cons _ (List.Sublist.refl _))))))) rfl rfl rfl ?_
                        refine ExD.op (i := 12) rfl (by kernel_rfl) rfl (op_storeC (i := 3) rfl rfl rfl rfl rfl rfl rfl rfl rfl rfl ⟨(List.Sublist.cons _ (List.Sublist.cons _ (List.Sublist.cons_cons _ (List.Sublist.cons _ (List.Sublist.cons _ (List.Sublist.refl _)))))), ?_⟩)
                        refine ExD.done (by kernel_rfl) ?_
                        refine Ex.conv (layEnd (perm_lt (i := 1) (j := 5) rfl rfl rfl)) ?_
                        refine Ex.region (ExL.pures 0 rfl ?_)
                        refine ExL.free (by first | exact fr_add64 rfl rfl rfl (by omega) | exact fr_add rfl rfl rfl) rfl rfl rfl ?_
                        refine ExL.pures 1 rfl ?_
                        refine ExL.nil ?_
                        have hKn : (q.K ++ [(⟨x18.1, x18.2, valsP s (L.getD q.K.length zPh)⟩ : VX Int)]).length = q.K.length + 1 := by simp
                        refine Hand.mk (⟨A25, cA25, q.K ++ [(⟨x18.1, x18.2, valsP s (L.getD q.K.length zPh)⟩ : VX Int)]⟩) 6 [3, 4, 0, 5] ⟨agI (by first | rfl | (simp; done) | (dsimp only; rw [hKn]; rfl)), trivial⟩ ⟨rfl, rfl, rfl, rfl, trivial⟩ (by first | rfl | (simp only [List.map_append, List.flatMap_append, hKn]; rfl)) rfl (⟨by dsimp only; omega, kx_step hKm (by omega) rfl, by dsimp only; rw [hKn]; exact all_snoc hall (by first | exact decide_eq_false (by omega) | (simp; omega))⟩) (by dsimp only; omega)
                      · refine ExD.op (i := 4) rfl (by kernel_rfl) rfl (Op1.of_free (fr_load rfl rfl rfl rfl (CellO.blk (i := 3) rfl rfl)) rfl rfl ⟨(List.Sublist.cons _ (List.Sublist.cons _ (List.Sublist.cons_cons _ (List.Sublist.cons _ (List.Sublist.cons _ (List.Sublist.refl _)))))), ?_⟩)
                        refine ExD.op (i := 9) rfl (by kernel_rfl) rfl (op_append (sz := 1) (bytes := 24) (i := 4) rfl rfl rfl rfl (Reads.row (i := 0) rfl) rfl (fun e => nomatch e) rfl rfl rfl rfl (by constructor <;> first | omega | (unfold maxLen; omega)) rfl rfl (fun A27 cA27 => ⟨(List.Sublist.cons _ (List.Sublist.cons _ (List.Sublist.cons_cons _ (List.Sublist.cons _ (List.Sublist.cons _ (List.Sublist.refl _)))))), ?_⟩))
                        refine ExD.take (i := 10) rfl (by kernel_rfl) (pureVal_ok rfl) ((List.Sublist.cons _ (List.Sublist.cons _ (List.Sublist.cons_cons _ (List.Sublist.cons _ (List.Sublist.cons _ (List.Sublist.refl _))))))) rfl rfl rfl ?_
                        refine ExD.take (i := 11) rfl (by kernel_rfl) (pureVal_ok rfl) ((List.Sublist.cons _ (List.Sublist.cons _ (List.Sublist.cons_cons _ (List.Sublist.cons _ (List.Sublist.cons _ (List.Sublist.refl _))))))) rfl rfl rfl ?_
                        refine ExD.op (i := 12) rfl (by kernel_rfl) rfl (op_storeC (i := 3) rfl rfl rfl rfl rfl rfl rfl rfl rfl rfl ⟨(List.Sublist.cons _ (List.Sublist.cons _ (List.Sublist.cons_cons _ (List.Sublist.cons _ (List.Sublist.cons _ (List.Sublist.refl _)))))), ?_⟩)
                        refine ExD.done (by kernel_rfl) ?_
                        refine Ex.conv (layEnd (perm_lt (i := 1) (j := 5) rfl rfl rfl)) ?_
                        refine Ex.region (ExL.pures 0 rfl ?_)
                        refine ExL.free (by first | exact fr_add64 rfl rfl rfl (by omega) | exact fr_add rfl rfl rfl) rfl rfl rfl ?_
                        refine ExL.pures 1 rfl ?_
                        refine ExL.nil ?_
                        have hKn : (q.K ++ [(⟨x18.1, x18.2, valsP s (L.getD q.K.length zPh)⟩ : VX Int)]).length = q.K.length + 1 := by simp
                        refine Hand.mk (⟨A27, cA27, q.K ++ [(⟨x18.1, x18.2, valsP s (L.getD q.K.length zPh)⟩ : VX Int)]⟩) 6 [3, 4, 0, 5] ⟨agI (by first | rfl | (simp; done) | (dsimp only; rw [hKn]; rfl)), trivial⟩ ⟨rfl, rfl, rfl, rfl, trivial⟩ (by first | rfl | (simp only [List.map_append, List.flatMap_append, hKn]; rfl)) rfl (⟨by dsimp only; omega, kx_step hKm (by omega) rfl, by dsimp only; rw [hKn]; exact all_snoc hall (by first | exact decide_eq_false (by omega) | (simp; omega))⟩) (by dsimp only; omega)
                · refine ExL.nil ?_
                  refine Ex.seq ?_
                  refine Ex.cond_f rfl ?_
                  refine Ex.exit ?_
                  have hKn : q.K.length = L.length := by omega
                  have hKe := kx_fin hKm hKn
                  refine Ex.regSeq (ExL.pures 3 rfl ?_)
                  refine ExL.nil ?_
                  refine Ex.ret ?_
                  refine RetQ.mk ⟨b13, q.A, q.c, q.K⟩ rfl (.tmp rfl (.tmp rfl .nil)) (rfl) [0, 1, 2] (rfl) rfl (hKe)
theorem c_filmOf_f (s : List Int) (hu : Nums 255 s) (As : Option Addr) (cs : Nat) (hls : s.length ≤ maxLen) (L : List VPh) (hLk : ∀ k, k < L.length → OkPh (L.getD k zPh)) (bl cL : Nat) (hlL : L.length ≤ maxLen) (lo hi us : Int) (hc0 : codeF s L lo hi us ≠ 0) : Ret Try.prog 25 [.slice As s.length cs, .slice (some ⟨bl, 0, none⟩) L.length cL, .int .i64 lo, .int .i64 hi, .int .i64 us] (fun w => Rd w As (s.flatMap (eI .u8)) ∧ Rd w (some ⟨bl, 0, none⟩) (L.flatMap encPh)) (fun x : Unit => .tuple #[.pointer none, .int .i64 (codeF s L lo hi us)]) (fun x => []) (fun x => True) := by
  refine Ret.of e_25 Try.func25 rfl Try.ntmps25 rfl rfl (fun w hpre => ?_)
  have hs := hpre.1.base
  have hLr := hpre.2.base
  have hm0 : maxLen = 9223372036854775807 := rfl
  refine Ex.regSeq (ExL.pures 0 rfl ?_)
  refine ExL.op rfl (op_box rfl rfl rfl rfl rfl (fun b1 => ?_))
  refine ExL.pures 2 rfl ?_
  refine ExL.nil ?_
  refine Ex.seq ?_
  refine Ex.regSeq (ExL.pures 0 rfl ?_)
  refine ExL.free (fr_load rfl rfl rfl rfl (CellO.blk (i := 0) rfl rfl)) rfl rfl rfl ?_
  refine ExL.op rfl (op_ret rfl rfl rfl (c_ValidStack _ (by assumption) _ _ (by first | assumption | omega | (unfold maxLen; omega))) (Reads.get (Reads.old hs)) rfl rfl (fun x2 hx2 => ?_))
  refine ExL.pures 2 rfl ?_
  refine ExL.bool (d := 18) rfl (fun hb3 => ?_) (fun hb3 => ?_)
  · replace hb3 := nb_t hb3
    refine ExL.pures 4 rfl ?_
    refine ExL.nil ?_
    refine Ex.cond_t rfl ?_
    refine Ex.regSeq (ExL.pures 2 rfl ?_)
    refine ExL.nil ?_
    refine Ex.ret ?_
    refine RetQ.mk () rfl (.tmp rfl (.tmp rfl .nil)) (t2 rfl (vI (by first | (rw [bad_1 (by assumption)]; first | done | rfl) | (rw [bad_2 (by assumption)]; first | done | rfl) | (rw [bad_3 (by assumption) (by assumption) (by omega)]; first | done | rfl) | (rw [bad_4 (k := q.K.length) hv hnb (by omega) (by omega) (by omega)]; first | done | rfl)))) [] (rfl) rfl (trivial)
  · replace hb3 := nb_f hb3
    refine ExL.pures 1 rfl ?_
    refine ExL.free (fr_makeFunc rfl rfl rfl) rfl rfl rfl ?_
    refine ExL.op rfl (op_ret rfl rfl rfl (c_plContainsFunc s (by first | exact hv | assumption) As cs _ L hLk _ _ (by omega)) (fun w hw => ⟨Reads.get (Reads.old hLr) w hw, Reads.get (Reads.blk (i := 0) rfl) w hw, Reads.get (Reads.old hs) w hw⟩) rfl rfl (fun x4 hx4 => ?_))
    refine ExL.pures 1 rfl ?_
    refine ExL.nil ?_
    refine Ex.cond rfl (fun hb5 => ?_) (fun hb5 => ?_)
    · refine Ex.regSeq (ExL.pures 2 rfl ?_)
      refine ExL.nil ?_
      refine Ex.ret ?_
      refine RetQ.mk () rfl (.tmp rfl (.tmp rfl .nil)) (t2 rfl (vI (by first | (rw [bad_1 (by assumption)]; first | done | rfl) | (rw [bad_2 (by assumption)]; first | done | rfl) | (rw [bad_3 (by assumption) (by assumption) (by omega)]; first | done | rfl) | (rw [bad_4 (k := q.K.length) hv hnb (by omega) (by omega) (by omega)]; first | done | rfl)))) [] (rfl) rfl (trivial)
    · refine Ex.skip ?_
      refine Ex.seq ?_
      refine Ex.regSeq (ExL.pures 2 rfl ?_)
      refine ExL.op rfl (op_ret rfl rfl rfl (c_within _ _ _) (fun _ _ => trivial) rfl rfl (fun x6 hx6 => ?_))
      refine ExL.pures 2 rfl ?_
      refine ExL.bool (d := 27) rfl (fun hb7 => ?_) (fun hb7 => ?_)
      · replace hb7 := nd_t hb7
        refine ExL.pures 19 rfl ?_
        refine ExL.nil ?_
        refine Ex.cond_t rfl ?_
        refine Ex.regSeq (ExL.pures 2 rfl ?_)
        refine ExL.nil ?_
        refine Ex.ret ?_
        refine RetQ.mk () rfl (.tmp rfl (.tmp rfl .nil)) (t2 rfl (vI (by first | (rw [bad_1 (by assumption)]; first | done | rfl) | (rw [bad_2 (by assumption)]; first | done | rfl) | (rw [bad_3 (by assumption) (by assumption) (by omega)]; first | done | rfl) | (rw [bad_4 (k := q.K.length) hv hnb (by omega) (by omega) (by omega)]; first | done | rfl)))) [] (rfl) rfl (trivial)
      · replace hb7 := nd_f hb7
        refine ExL.pures 1 rfl ?_
        refine ExL.lss rfl rfl rfl rfl rfl rfl (fun h8 => ?_) (fun h8 => ?_)
        · refine ExL.pures 17 rfl ?_
          refine ExL.nil ?_
          refine Ex.cond_t rfl ?_
          refine Ex.regSeq (ExL.pures 2 rfl ?_)
          refine ExL.nil ?_
          refine Ex.ret ?_
          refine RetQ.mk () rfl (.tmp rfl (.tmp rfl .nil)) (t2 rfl (vI (by first | (rw [bad_1 (by assumption)]; first | done | rfl) | (rw [bad_2 (by assumption)]; first | done | rfl) | (rw [bad_3 (by assumption) (by assumption) (by omega)]; first | done | rfl) | (rw [bad_4 (k := q.K.length) hv hnb (by omega) (by omega) (by omega)]; first | done | rfl)))) [] (rfl) rfl (trivial)
        · refine ExL.pures 4 rfl ?_
          refine ExL.gtr rfl rfl rfl rfl rfl rfl (fun h9 => ?_) (fun h9 => ?_)
          · refine ExL.pures 12 rfl ?_
            refine ExL.nil ?_
            refine Ex.cond_t rfl ?_
            refine Ex.regSeq (ExL.pures 2 rfl ?_)
            refine ExL.nil ?_
            refine Ex.ret ?_
            refine RetQ.mk () rfl (.tmp rfl (.tmp rfl .nil)) (t2 rfl (vI (by first | (rw [bad_1 (by assumption)]; first | done | rfl) | (rw [bad_2 (by assumption)]; first | done | rfl) | (rw [bad_3 (by assumption) (by assumption) (by omega)]; first | done | rfl) | (rw [bad_4 (k := q.K.length) hv hnb (by omega) (by omega) (by omega)]; first | done | rfl)))) [] (rfl) rfl (trivial)
          · refine ExL.pures 3 rfl ?_
            refine ExL.gtr rfl rfl rfl rfl rfl rfl (fun h10 => ?_) (fun h10 => ?_)
            · refine ExL.pures 8 rfl ?_
              refine ExL.nil ?_
              refine Ex.cond_t rfl ?_
              refine Ex.regSeq (ExL.pures 2 rfl ?_)
              refine ExL.nil ?_
              refine Ex.ret ?_
              refine RetQ.mk () rfl (.tmp rfl (.tmp rfl .nil)) (t2 rfl (vI (by first | (rw [bad_1 (by assumption)]; first | done | rfl) | (rw [bad_2 (by assumption)]; first | done | rfl) | (rw [bad_3 (by assumption) (by assumption) (by omega)]; first | done | rfl) | (rw [bad_4 (k := q.K.length) hv hnb (by omega) (by omega) (by omega)]; first | done | rfl)))) [] (rfl) rfl (trivial)
            · refine ExL.pures 5 rfl ?_
              refine ExL.op rfl (op_ret rfl rfl rfl (c_within _ _ _) (fun _ _ => trivial) rfl rfl (fun x11 hx11 => ?_))
              refine ExL.pures 2 rfl ?_
              refine ExL.nil ?_
              refine Ex.cond rfl (fun hb12 => ?_) (fun hb12 => ?_)
              · replace hb12 := nd_t hb12
                refine Ex.regSeq (ExL.pures 2 rfl ?_)
                refine ExL.nil ?_
                refine Ex.ret ?_
                refine RetQ.mk () rfl (.tmp rfl (.tmp rfl .nil)) (t2 rfl (vI (by first | (rw [bad_1 (by assumption)]; first | done | rfl) | (rw [bad_2 (by assumption)]; first | done | rfl) | (rw [bad_3 (by assumption) (by assumption) (by omega)]; first | done | rfl) | (rw [bad_4 (k := q.K.length) hv hnb (by omega) (by omega) (by omega)]; first | done | rfl)))) [] (rfl) rfl (trivial)
              · replace hb12 := nd_f hb12
                refine Ex.skip ?_
                have hv : validStack s = true := by first | assumption | simp_all
                have hnb : badP s L = false := by first | assumption | simp_all
                have hS := stk hv
                have hLp := okLp hLk hv hnb
                refine Ex.regSeq (ExL.pures 2 rfl ?_)
                refine ExL.free (fr_build rfl rfl rfl rfl) rfl rfl rfl ?_
                refine ExL.op rfl (op_box rfl rfl rfl rfl rfl (fun b13 => ?_))
                refine ExL.pures 1 rfl ?_
                refine ExL.nil ?_
                refine Ex.seq ?_
                refine Ex.nilRow 26 1 ?_
                refine Ex.pile0 ?_
                refine Ex.regSeq (ExL.pures 3 rfl ?_)
                refine ExL.nil ?_
                refine Ex.block ?_
                refine Ex.loopK (X := FSt) (fun q => [(53, .int .i64 q.K.length)]) (fun q => [.blk b13 [.slice q.A q.K.length q.c, .int .i64 lo, .int .i64 hi] 60, .row (.slice q.A q.K.length q.c) 26 1 q.K.length (q.K.flatMap encX), .pile (q.K.map (rwX (eI .i64) 2 1))]) (fun q => q.K.length ≤ L.length ∧ q.K.map (·.xs) = (filmL s L).take q.K.length ∧ ∀ i, i < q.K.length → decide (400 < choV (L.getD i zPh).l s.length) = false) (fun q => L.length - q.K.length) ⟨none, 0, []⟩ [(5, _), (12, _), (51, _), (52, _)] [_] 4 [2, 1, 0, 3] ⟨rfl, trivial⟩ ⟨rfl, rfl, rfl, rfl, trivial⟩ (rfl) rfl ⟨Nat.zero_le _, rfl, fun i hi => by simp at hi⟩ (fun q hI => ?_)
                have hI : q.K.length ≤ L.length ∧ q.K.map (·.xs) = (filmL s L).take q.K.length ∧ ∀ i, i < q.K.length → decide (400 < choV (L.getD i zPh).l s.length) = false := hI
                obtain ⟨hK, hKm, hall⟩ := hI
                refine Ex.regSeq (ExL.pures 0 rfl ?_)
                refine ExL.lss rfl rfl rfl rfl rfl rfl (fun h14 => ?_) (fun h14 => ?_)
                · refine ExL.nil ?_
                  refine Ex.seq ?_
                  refine Ex.cond_t rfl ?_
                  refine Ex.skip ?_
                  refine Ex.seq ?_
                  refine Ex.block ?_
                  refine Ex.regSeq (ExL.pures 0 rfl ?_)
                  refine ExL.free (fr_indexAddrF (Reads.old hLr) encPh_len rfl rfl rfl rfl rfl rfl (by omega)) rfl rfl rfl ?_
                  refine ExL.free (fr_loadN rfl rfl rfl rfl rfl (by first | exact segN (Reads.old hLr) encPh_len rfl zPh (by omega) | exact segF (Reads.old hLr) encPh_len rfl zPh (by omega))) rfl rfl rfl ?_
                  refine ExL.op rfl (op_alloc rfl rfl rfl rfl rfl (fun b15 => ?_))
                  refine ExL.op rfl (op_storeC (i := 0) rfl rfl rfl rfl rfl rfl rfl rfl rfl rfl ?_)
                  refine ExL.nil ?_
                  refine Ex.seq ?_
                  refine Ex.regSeq (ExL.pures 0 rfl ?_)
                  refine ExL.free (fr_load rfl rfl rfl rfl (CellO.blk (i := 4) rfl rfl)) rfl rfl rfl ?_
                  refine ExL.pures 1 rfl ?_
                  refine ExL.op rfl (op_ret rfl rfl rfl (c_choices s (by first | assumption | exact stk (by assumption)) (L.getD q.K.length zPh) (hLp _ (by omega)) (hLk _ (by omega)) _ _ s.length (by omega)) (Reads.get (Reads.blk (i := 0) rfl)) rfl rfl (fun x16 hx16 => ?_))
                  refine ExL.gtr rfl rfl rfl rfl rfl rfl (fun h17 => ?_) (fun h17 => ?_)
                  · refine ExL.nil ?_
                    refine Ex.cond_t rfl ?_
                    refine Ex.regSeq (ExL.pures 2 rfl ?_)
                    refine ExL.nil ?_
                    refine Ex.ret ?_
                    refine RetQ.mk () rfl (.tmp rfl (.tmp rfl .nil)) (t2 rfl (vI (by first | (rw [bad_1 (by assumption)]; first | done | rfl) | (rw [bad_2 (by assumption)]; first | done | rfl) | (rw [bad_3 (by assumption) (by assumption) (by omega)]; first | done | rfl) | (rw [bad_4 (k := q.K.length) hv hnb (by omega) (by omega) (by omega)]; first | done | rfl)))) [] (rfl) rfl (trivial)
                  · refine ExL.nil ?_
                    refine Ex.cond_f rfl ?_
                    refine Ex.skip ?_
                    refine Ex.drawI [0, 3, 4] rfl rfl ?_
                    refine ExD.take (i := 0) rfl (by kernel_rfl) (pureVal_ok rfl) ((List.Sublist.cons_cons _ (List.Sublist.cons _ (List.Sublist.cons _ (List.Sublist.refl _))))) rfl rfl rfl ?_
                    refine ExD.take (i := 1) rfl (by kernel_rfl) (pureVal_ok rfl) ((List.Sublist.cons_cons _ (List.Sublist.cons _ (List.Sublist.cons _ (List.Sublist.refl _))))) rfl rfl rfl ?_
                    refine ExD.take (i := 2) rfl (by kernel_rfl) (pureVal_ok rfl) ((List.Sublist.cons_cons _ (List.Sublist.cons _ (List.Sublist.cons _ (List.Sublist.refl _))))) rfl rfl rfl ?_
                    refine ExD.take (i := 3) rfl (by kernel_rfl) (pureVal_ok rfl) ((List.Sublist.cons_cons _ (List.Sublist.cons _ (List.Sublist.cons _ (List.Sublist.refl _))))) rfl rfl rfl ?_
                    refine ExD.take (i := 5) rfl (by kernel_rfl) (fr_load rfl rfl rfl rfl (CellO.blk (i := 2) rfl rfl)) ((List.Sublist.cons_cons _ (List.Sublist.cons _ (List.Sublist.cons _ (List.Sublist.refl _))))) rfl rfl rfl ?_
                    refine ExD.take (i := 6) rfl (by kernel_rfl) (fr_loadN rfl rfl rfl rfl rfl (SegO.whole (i := 0) rfl)) ((List.Sublist.cons_cons _ (List.Sublist.cons _ (List.Sublist.cons _ (List.Sublist.refl _))))) rfl rfl rfl ?_
                    refine ExD.fork (i := 4) (j := 7) rfl rfl (by kernel_rfl) rfl rfl (Op1.of_free (fr_load rfl rfl rfl rfl (CellO.blk (i := 1) rfl rfl)) rfl rfl ⟨(List.Sublist.cons_cons _ (List.Sublist.cons _ (List.Sublist.cons _ (List.Sublist.refl _)))), ?_⟩) (op_ret rfl rfl rfl (c_values s (by first | assumption | simp_all) _ _ (L.getD q.K.length zPh) (hLk _ (by omega)) (hLp _ (by omega))) (Reads.get (Reads.old hs)) rfl rfl (fun x18 hx18 => ⟨(List.Sublist.cons _ (List.Sublist.cons_cons _ (List.Sublist.cons _ (List.Sublist.cons _ (List.Sublist.refl _))))), ?_⟩))
                    · refine ExD.op (i := 7) rfl (by kernel_rfl) rfl (op_ret rfl rfl rfl (c_values s (by first | assumption | simp_all) _ _ (L.getD q.K.length zPh) (hLk _ (by omega)) (hLp _ (by omega))) (Reads.get (Reads.old hs)) rfl rfl (fun x19 hx19 => ⟨(List.Sublist.cons _ (List.Sublist.cons_cons _ (List.Sublist.cons _ (List.Sublist.cons _ (List.Sublist.refl _))))), ?_⟩))
                      refine ExD.op (i := 8) rfl (by kernel_rfl) rfl (op_buildSlice (sz := 1) rfl rfl rfl rfl rfl rfl rfl rfl (by decide) rfl rfl rfl (fun r20 => ⟨(List.Sublist.cons _ (List.Sublist.cons _ (List.Sublist.cons_cons _ (List.Sublist.cons _ (List.Sublist.cons _ (List.Sublist.refl _)))))), ?_⟩))
                      refine ExD.op (i := 9) rfl (by kernel_rfl) rfl (op_append (sz := 1) (bytes := 24) (i := 4) rfl rfl rfl rfl (Reads.row (i := 0) rfl) rfl (fun e => nomatch e) rfl rfl rfl rfl (by constructor <;> first | omega | (unfold maxLen; omega)) rfl rfl (fun A21 cA21 => ⟨(List.Sublist.cons _ (List.Sublist.cons _ (List.Sublist.cons_cons _ (List.Sublist.cons _ (List.Sublist.cons _ (List.Sublist.refl _)))))), ?_⟩))
                      refine ExD.take (i := 10) rfl (by kernel_rfl) (pureVal_ok rfl) ((List.Sublist.cons _ (List.Sublist.cons _ (List.Sublist.cons_cons _ (List.Sublist.cons _ (List.Sublist.cons _ (List.Sublist.refl _))))))) rfl rfl rfl ?_
                      refine ExD.take (i := 11) rfl (by kernel_rfl) (pureVal_ok rfl) ((List.Sublist.cons _ (List.Sublist.cons _ (List.Sublist.cons_cons _ (List.Sublist.cons _ (List.Sublist.cons _ (List.Sublist.refl _))))))) rfl rfl rfl ?_
                      refine ExD.op (i := 12) rfl (by kernel_rfl) rfl (op_storeC (i := 3) rfl rfl rfl rfl rfl rfl rfl rfl rfl rfl ⟨(List.Sublist.cons _ (List.Sublist.cons _ (List.Sublist.cons_cons _ (List.Sublist.cons _ (List.Sublist.cons _ (List.Sublist.refl _)))))), ?_⟩)
                      refine ExD.done (by kernel_rfl) ?_
                      refine Ex.conv (layEnd (perm_lt (i := 1) (j := 5) rfl rfl rfl)) ?_
                      refine Ex.region (ExL.pures 0 rfl ?_)
                      refine ExL.free (by first | exact fr_add64 rfl rfl rfl (by omega) | exact fr_add rfl rfl rfl) rfl rfl rfl ?_
                      refine ExL.pures 1 rfl ?_
                      refine ExL.nil ?_
                      have hKn : (q.K ++ [(⟨x19.1, x19.2, valsP s (L.getD q.K.length zPh)⟩ : VX Int)]).length = q.K.length + 1 := by simp
                      refine Hand.mk (⟨A21, cA21, q.K ++ [(⟨x19.1, x19.2, valsP s (L.getD q.K.length zPh)⟩ : VX Int)]⟩) 6 [3, 4, 0, 5] ⟨agI (by first | rfl | (simp; done) | (dsimp only; rw [hKn]; rfl)), trivial⟩ ⟨rfl, rfl, rfl, rfl, trivial⟩ (by first | rfl | (simp only [List.map_append, List.flatMap_append, hKn]; rfl)) rfl (⟨by dsimp only; omega, kx_step hKm (by omega) rfl, by dsimp only; rw [hKn]; exact all_snoc hall (by first | exact decide_eq_false (by omega) | (simp; omega))⟩) (by dsimp only; omega)
                    · refine ExD.fork (i := 4) (j := 8) rfl rfl (by kernel_rfl) rfl rfl (Op1.of_free (fr_load rfl rfl rfl rfl (CellO.blk (i := 2) rfl rfl)) rfl rfl ⟨(List.Sublist.cons _ (List.Sublist.cons_cons _ (List.Sublist.cons _ (List.Sublist.cons _ (List.Sublist.refl _))))), ?_⟩) (op_buildSlice (sz := 1) rfl rfl rfl rfl rfl rfl rfl rfl (by decide) rfl rfl rfl (fun r23 => ⟨(List.Sublist.cons _ (List.Sublist.cons _ (List.Sublist.cons_cons _ (List.Sublist.cons _ (List.Sublist.cons _ (List.Sublist.refl _)))))), ?_⟩))
                      · refine ExD.op (i := 8) rfl (by kernel_rfl) rfl (op_buildSlice (sz := 1) rfl rfl rfl rfl rfl rfl rfl rfl (by decide) rfl rfl rfl (fun r24 => ⟨(List.Sublist.cons _ (List.Sublist.cons _ (List.Sublist.cons_cons _ (List.Sublist.cons _ (List.Sublist.cons _ (List.Sublist.refl _)))))), ?_⟩))
                        refine ExD.op (i := 9) rfl (by kernel_rfl) rfl (op_append (sz := 1) (bytes := 24) (i := 4) rfl rfl rfl rfl (Reads.row (i := 0) rfl) rfl (fun e => nomatch e) rfl rfl rfl rfl (by constructor <;> first | omega | (unfold maxLen; omega)) rfl rfl (fun A25 cA25 => ⟨(List.Sublist.cons _ (List.Sublist.cons _ (List.Sublist.cons_cons _ (List.Sublist.cons _ (List.Sublist.cons _ (List.Sublist.refl _)))))), ?_⟩))
                        refine ExD.take (i := 10) rfl (by kernel_rfl) (pureVal_ok rfl) ((List.Sublist.cons _ (List.Sublist.cons _ (List.Sublist.cons_cons _ (List.Sublist.cons _ (List.Sublist.cons _ (List.Sublist.refl _))))))) rfl rfl rfl ?_
                        refine ExD.take (i := 11) rfl (by kernel_rfl) (pureVal_ok rfl) ((List.Sublist.cons _ (List.Sublist.cons _ (List.Sublist.cons_cons _ (List.Sublist.cons _ (List.Sublist.cons _ (List.Sublist.refl _))))))) rfl rfl rfl ?_
                        refine ExD.op (i := 12) rfl (by kernel_rfl) rfl (op_storeC (i := 3) rfl rfl rfl rfl rfl rfl rfl rfl rfl rfl ⟨(List.Sublist.cons _ (List.Sublist.cons _ (List.Sublist.cons_cons _ (List.Sublist.cons _ (List.Sublist.cons _ (List.Sublist.refl _)))))), ?_⟩)
                        refine ExD.done (by kernel_rfl) ?_
                        refine Ex.conv (layEnd (perm_lt (i := 1) (j := 5) rfl rfl rfl)) ?_
                        refine Ex.region (ExL.pures 0 rfl ?_)
                        refine ExL.free (by first | exact fr_add64 rfl rfl rfl (by omega) | exact fr_add rfl rfl rfl) rfl rfl rfl ?_
                        refine ExL.pures 1 rfl ?_
                        refine ExL.nil ?_
                        have hKn : (q.K ++ [(⟨x18.1, x18.2, valsP s (L.getD q.K.length zPh)⟩ : VX Int)]).length = q.K.length + 1 := by simp
                        refine Hand.mk (⟨A25, cA25, q.K ++ [(⟨x18.1, x18.2, valsP s (L.getD q.K.length zPh)⟩ : VX Int)]⟩) 6 [3, 4, 0, 5] ⟨agI (by first | rfl | (simp; done) | (dsimp only; rw [hKn]; rfl)), trivial⟩ ⟨rfl, rfl, rfl, rfl, trivial⟩ (by first | rfl | (simp only [List.map_append, List.flatMap_append, hKn]; rfl)) rfl (⟨by dsimp only; omega, kx_step hKm (by omega) rfl, by dsimp only; rw [hKn]; exact all_snoc hall (by first | exact decide_eq_false (by omega) | (simp; omega))⟩) (by dsimp only; omega)
                      · refine ExD.op (i := 4) rfl (by kernel_rfl) rfl (Op1.of_free (fr_load rfl rfl rfl rfl (CellO.blk (i := 3) rfl rfl)) rfl rfl ⟨(List.Sublist.cons _ (List.Sublist.cons _ (List.Sublist.cons_cons _ (List.Sublist.cons _ (List.Sublist.cons _ (List.Sublist.refl _)))))), ?_⟩)
                        refine ExD.op (i := 9) rfl (by kernel_rfl) rfl (op_append (sz := 1) (bytes := 24) (i := 4) rfl rfl rfl rfl (Reads.row (i := 0) rfl) rfl (fun e => nomatch e) rfl rfl rfl rfl (by constructor <;> first | omega | (unfold maxLen; omega)) rfl rfl (fun A27 cA27 => ⟨(List.Sublist.cons _ (List.Sublist.cons _ (List.Sublist.cons_cons _ (List.Sublist.cons _ (List.Sublist.cons _ (List.Sublist.refl _)))))), ?_⟩))
                        refine ExD.take (i := 10) rfl (by kernel_rfl) (pureVal_ok rfl) ((List.Sublist.cons _ (List.Sublist.cons _ (List.Sublist.cons_cons _ (List.Sublist.cons _ (List.Sublist.cons _ (List.Sublist.refl _))))))) rfl rfl rfl ?_
                        refine ExD.take (i := 11) rfl (by kernel_rfl) (pureVal_ok rfl) ((List.Sublist.cons _ (List.Sublist.cons _ (List.Sublist.cons_cons _ (List.Sublist.cons _ (List.Sublist.cons _ (List.Sublist.refl _))))))) rfl rfl rfl ?_
                        refine ExD.op (i := 12) rfl (by kernel_rfl) rfl (op_storeC (i := 3) rfl rfl rfl rfl rfl rfl rfl rfl rfl rfl ⟨(List.Sublist.cons _ (List.Sublist.cons _ (List.Sublist.cons_cons _ (List.Sublist.cons _ (List.Sublist.cons _ (List.Sublist.refl _)))))), ?_⟩)
                        refine ExD.done (by kernel_rfl) ?_
                        refine Ex.conv (layEnd (perm_lt (i := 1) (j := 5) rfl rfl rfl)) ?_
                        refine Ex.region (ExL.pures 0 rfl ?_)
                        refine ExL.free (by first | exact fr_add64 rfl rfl rfl (by omega) | exact fr_add rfl rfl rfl) rfl rfl rfl ?_
                        refine ExL.pures 1 rfl ?_
                        refine ExL.nil ?_
                        have hKn : (q.K ++ [(⟨x18.1, x18.2, valsP s (L.getD q.K.length zPh)⟩ : VX Int)]).length = q.K.length + 1 := by simp
                        refine Hand.mk (⟨A27, cA27, q.K ++ [(⟨x18.1, x18.2, valsP s (L.getD q.K.length zPh)⟩ : VX Int)]⟩) 6 [3, 4, 0, 5] ⟨agI (by first | rfl | (simp; done) | (dsimp only; rw [hKn]; rfl)), trivial⟩ ⟨rfl, rfl, rfl, rfl, trivial⟩ (by first | rfl | (simp only [List.map_append, List.flatMap_append, hKn]; rfl)) rfl (⟨by dsimp only; omega, kx_step hKm (by omega) rfl, by dsimp only; rw [hKn]; exact all_snoc hall (by first | exact decide_eq_false (by omega) | (simp; omega))⟩) (by dsimp only; omega)
                · refine ExL.nil ?_
                  refine Ex.seq ?_
                  refine Ex.cond_f rfl ?_
                  refine Ex.exit ?_
                  have hKn : q.K.length = L.length := by omega
                  have hKe := kx_fin hKm hKn
                  exfalso; exact hc0 (cf_all hv hnb (by omega) (k := q.K.length) (by omega) hall)
theorem e_26 : Enters Try.prog 26 := Enters.of Try.func26 rfl
theorem c_goes (v0 : Value) (lo hi : Int) (hlh : 0 ≤ lo ∧ hi ≤ 1000000000000) (b : Nat) (u v : Int) (hu : 0 ≤ u ∧ u ≤ 1000000000000) (hv : 0 ≤ v ∧ v ≤ 1000000000000) : Ret Try.prog 26 [.pointer (some ⟨b, 0, none⟩), .int .i64 u, .int .i64 v] (fun w => Rd w (some ⟨b, 0, none⟩) [v0, .int .i64 lo, .int .i64 hi]) (fun x : Unit => .bool (goesB lo hi u v)) (fun x => []) (fun x => True) := by
  refine Ret.of e_26 Try.func26 rfl Try.ntmps26 rfl rfl (fun w hpre => ?_)
  have hpt := hpre.base
  refine Ex.regSeq (ExL.pures 1 rfl ?_)
  refine ExL.nil ?_
  refine Ex.drawSeqM rfl ?_
  refine ExD.take (i := 0) rfl (by kernel_rfl) (pureVal_ok rfl) ((List.Sublist.refl _)) rfl rfl rfl ?_
  refine ExD.take (i := 1) rfl (by kernel_rfl) (pureVal_ok rfl) ((List.Sublist.refl _)) rfl rfl rfl ?_
  refine ExD.take (i := 2) rfl (by kernel_rfl) (by first | exact fr_sub64 rfl rfl rfl (by omega) | exact fr_sub rfl rfl rfl) ((List.Sublist.refl _)) rfl rfl rfl ?_
  refine ExD.take (i := 3) rfl (by kernel_rfl) (pureVal_ok rfl) ((List.Sublist.refl _)) rfl rfl rfl ?_
  refine ExD.take (i := 4) rfl (by kernel_rfl) (pureVal_ok rfl) ((List.Sublist.refl _)) rfl rfl rfl ?_
  refine ExD.take (i := 5) rfl (by kernel_rfl) (pureVal_ok rfl) ((List.Sublist.refl _)) rfl rfl rfl ?_
  refine ExD.take (i := 6) rfl (by kernel_rfl) (fr_load rfl rfl rfl rfl (CellO.at 1 (Reads.old hpt) rfl)) ((List.Sublist.refl _)) rfl rfl rfl ?_
  refine ExD.take (i := 7) rfl (by kernel_rfl) (pureVal_ok rfl) ((List.Sublist.refl _)) rfl rfl rfl ?_
  refine ExD.take (i := 8) rfl (by kernel_rfl) (pureVal_ok rfl) ((List.Sublist.refl _)) rfl rfl rfl ?_
  refine ExD.take (i := 9) rfl (by kernel_rfl) (pureVal_ok rfl) ((List.Sublist.refl _)) rfl rfl rfl ?_
  refine ExD.take (i := 10) rfl (by kernel_rfl) (fr_load rfl rfl rfl rfl (CellO.at 2 (Reads.old hpt) rfl)) ((List.Sublist.refl _)) rfl rfl rfl ?_
  refine ExD.op (i := 11) rfl (by kernel_rfl) rfl (op_ret rfl rfl rfl (c_within _ _ _) (fun _ _ => trivial) rfl rfl (fun x1 hx1 => ⟨(List.Sublist.refl _), ?_⟩))
  refine ExD.take (i := 12) rfl (by kernel_rfl) (pureVal_ok rfl) ((List.Sublist.refl _)) rfl rfl rfl ?_
  refine ExD.done (by kernel_rfl) ?_
  refine Ex.ret ?_
  refine RetQ.mk () rfl (.tmp rfl .nil) (rfl) [] (rfl) rfl (trivial)
theorem e_28 : Enters Try.prog 28 := Enters.of Try.func28 rfl
theorem c_follows (v0 v1 : Value) (lo hi : Int) (hlh : 0 ≤ lo ∧ hi ≤ 1000000000000) (b : Nat) (u v : Int) (hu : 0 ≤ u ∧ u ≤ 1000000000000) (hv : 0 ≤ v ∧ v ≤ 1000000000000) : Ret Try.prog 28 [.pointer (some ⟨b, 0, none⟩), .int .i64 u, .int .i64 v] (fun w => Rd w (some ⟨b, 0, none⟩) [v0, v1, .int .i64 lo, .int .i64 hi]) (fun x : Unit => .bool (goesB lo hi u v)) (fun x => []) (fun x => True) := by
  refine Ret.of e_28 Try.func28 rfl Try.ntmps28 rfl rfl (fun w hpre => ?_)
  have hpt := hpre.base
  refine Ex.regSeq (ExL.pures 1 rfl ?_)
  refine ExL.nil ?_
  refine Ex.drawSeqM rfl ?_
  refine ExD.take (i := 0) rfl (by kernel_rfl) (pureVal_ok rfl) ((List.Sublist.refl _)) rfl rfl rfl ?_
  refine ExD.take (i := 1) rfl (by kernel_rfl) (pureVal_ok rfl) ((List.Sublist.refl _)) rfl rfl rfl ?_
  refine ExD.take (i := 2) rfl (by kernel_rfl) (by first | exact fr_sub64 rfl rfl rfl (by omega) | exact fr_sub rfl rfl rfl) ((List.Sublist.refl _)) rfl rfl rfl ?_
  refine ExD.take (i := 3) rfl (by kernel_rfl) (pureVal_ok rfl) ((List.Sublist.refl _)) rfl rfl rfl ?_
  refine ExD.take (i := 4) rfl (by kernel_rfl) (pureVal_ok rfl) ((List.Sublist.refl _)) rfl rfl rfl ?_
  refine ExD.take (i := 5) rfl (by kernel_rfl) (pureVal_ok rfl) ((List.Sublist.refl _)) rfl rfl rfl ?_
  refine ExD.take (i := 6) rfl (by kernel_rfl) (fr_load rfl rfl rfl rfl (CellO.at 2 (Reads.old hpt) rfl)) ((List.Sublist.refl _)) rfl rfl rfl ?_
  refine ExD.take (i := 7) rfl (by kernel_rfl) (pureVal_ok rfl) ((List.Sublist.refl _)) rfl rfl rfl ?_
  refine ExD.take (i := 8) rfl (by kernel_rfl) (pureVal_ok rfl) ((List.Sublist.refl _)) rfl rfl rfl ?_
  refine ExD.take (i := 9) rfl (by kernel_rfl) (pureVal_ok rfl) ((List.Sublist.refl _)) rfl rfl rfl ?_
  refine ExD.take (i := 10) rfl (by kernel_rfl) (fr_load rfl rfl rfl rfl (CellO.at 3 (Reads.old hpt) rfl)) ((List.Sublist.refl _)) rfl rfl rfl ?_
  refine ExD.op (i := 11) rfl (by kernel_rfl) rfl (op_ret rfl rfl rfl (c_l00In _ _ _) (fun _ _ => trivial) rfl rfl (fun x1 hx1 => ⟨(List.Sublist.refl _), ?_⟩))
  refine ExD.take (i := 12) rfl (by kernel_rfl) (pureVal_ok rfl) ((List.Sublist.refl _)) rfl rfl rfl ?_
  refine ExD.done (by kernel_rfl) ?_
  refine Ex.ret ?_
  refine RetQ.mk () rfl (.tmp rfl .nil) (rfl) [] (rfl) rfl (trivial)
theorem e_27 : Enters Try.prog 27 := Enters.of Try.func27 rfl
theorem c_l05Begin_t (s : List Int) (hu : Nums 255 s) (As : Option Addr) (cs : Nat) (hls : s.length ≤ maxLen) (L : List VPh) (hLk : ∀ k, k < L.length → OkPh (L.getD k zPh)) (bl cL : Nat) (hlL : L.length ≤ maxLen) (lo hi : Int) (hc0 : codeF s L lo hi lo = 0) : Ret Try.prog 27 [.slice As s.length cs, .slice (some ⟨bl, 0, none⟩) L.length cL, .int .i64 lo, .int .i64 hi] (fun w => Rd w As (s.flatMap (eI .u8)) ∧ Rd w (some ⟨bl, 0, none⟩) (L.flatMap encPh)) (fun x : FX => .tuple #[.pointer (some ⟨x.b, 0, none⟩), .int .i64 0]) (fun x => [.blk x.b [.slice As s.length cs, .slice x.A x.K.length x.c, .int .i64 lo, .int .i64 hi] 66, .row (.slice x.A x.K.length x.c) 26 1 x.K.length (x.K.flatMap encX), .pile (x.K.map (rwX (eI .i64) 2 1))]) (fun x => x.K.map (·.xs) = filmL s L) := by
  refine Ret.of e_27 Try.func27 rfl Try.ntmps27 rfl rfl (fun w hpre => ?_)
  have hs := hpre.1.base
  have hLr := hpre.2.base
  have hm0 : maxLen = 9223372036854775807 := rfl
  obtain ⟨hv, hnb, hrg, hmy⟩ := cf_of hc0
  have hS := stk hv
  have hLp := okLp hLk hv hnb
  refine Ex.regSeq (ExL.pures 2 rfl ?_)
  refine ExL.nil ?_
  refine Ex.regSeq (ExL.pures 3 rfl ?_)
  refine ExL.free (fr_build rfl rfl rfl rfl) rfl rfl rfl ?_
  refine ExL.op rfl (op_box rfl rfl rfl rfl rfl (fun b1 => ?_))
  refine ExL.pures 1 rfl ?_
  refine ExL.nil ?_
  refine Ex.regSeq (ExL.pures 1 rfl ?_)
  refine ExL.op rfl (op_ret rfl rfl rfl (c_l01Ok _ (by assumption) _ _ (by first | assumption | omega | (unfold maxLen; omega))) (Reads.get (Reads.old hs)) rfl rfl (fun x2 hx2 => ?_))
  refine ExL.pures 1 rfl ?_
  refine ExL.nil ?_
  refine Ex.seq ?_
  refine Ex.regSeq (ExL.pures 1 rfl ?_)
  refine ExL.nil ?_
  refine Ex.block ?_
  refine Ex.loopK (X := Nat) (fun k => [(11, .bool (okK s L k)), (12, .int .i64 k)]) (fun k => []) (fun k => k ≤ L.length) (fun k => L.length - k) 0 [(0, _), (1, _), (2, _), (3, _), (8, _), (9, _), (10, _)] [_] 1 [0] ⟨agB (okK_0 s L).symm, rfl, trivial⟩ ⟨rfl, rfl, rfl, rfl, rfl, rfl, rfl, trivial⟩ (rfl) rfl (Nat.zero_le _) (fun k hI => ?_)
  have hI : k ≤ L.length := hI
  refine Ex.seq ?_
  refine Ex.regSeq (ExL.pures 3 rfl ?_)
  refine ExL.lss rfl rfl rfl rfl rfl rfl (fun h3 => ?_) (fun h3 => ?_)
  · refine ExL.pures 3 rfl ?_
    refine ExL.nil ?_
    refine Ex.cond rfl (fun hb4 => ?_) (fun hb4 => ?_)
    · rw [hb4]
      refine Ex.skip ?_
      refine Ex.seq ?_
      refine Ex.block ?_
      have hv6 := okK_v (s := s) (L := L) (k := k) (by assumption)
      refine Ex.region (ExL.pures 3 rfl ?_)
      refine ExL.free (fr_indexAddrP (Reads.old hLr) encPh_len rfl rfl rfl rfl rfl rfl (by omega)) rfl rfl rfl ?_
      refine ExL.op rfl (op_ret rfl rfl rfl (c_l05Ok s (by first | assumption | simp_all) _ _ (L.getD k zPh) (hLk _ (by omega)) _ _) (fun w hw => ⟨Reads.get (Reads.old hs) w hw, Reads.get (Reads.elemP (Reads.old hLr) encPh_len zPh (by omega)) w hw⟩) rfl rfl (fun x5 hx5 => ?_))
      refine ExL.pures 1 rfl ?_
      refine ExL.nil ?_
      refine Ex.region (ExL.pures 1 rfl ?_)
      refine ExL.free (by first | exact fr_add64 rfl rfl rfl (by omega) | exact fr_add rfl rfl rfl) rfl rfl rfl ?_
      refine ExL.pures 1 rfl ?_
      refine ExL.nil ?_
      refine Hand.mk (k + 1) 1 [0] ⟨agB (okK_s (by assumption)).symm, rfl, trivial⟩ ⟨rfl, rfl, rfl, rfl, rfl, rfl, rfl, trivial⟩ (rfl) rfl (by omega) (by omega)
    · rw [hb4]
      refine Ex.exit ?_
      refine Ex.seq ?_
      refine Ex.regSeq (ExL.pures 2 rfl ?_)
      refine ExL.nil ?_
      refine Ex.cond_t rfl ?_
      exfalso; have h9 := okK_no (s := s) (L := L) (k := k) (by omega) (by assumption); rw [hv, hnb] at h9; cases h9
  · refine ExL.pures 3 rfl ?_
    refine ExL.nil ?_
    refine Ex.cond_f rfl ?_
    refine Ex.exit ?_
    refine Ex.seq ?_
    refine Ex.regSeq (ExL.pures 2 rfl ?_)
    refine ExL.nil ?_
    refine Ex.cond rfl (fun hb6 => ?_) (fun hb6 => ?_)
    · replace hb6 := nb_t hb6
      exfalso; have h9 := okK_no (s := s) (L := L) (k := k) (by omega) (by assumption); rw [hv, hnb] at h9; cases h9
    · replace hb6 := nb_f hb6
      refine Ex.skip ?_
      refine Ex.seq ?_
      refine Ex.regSeq (ExL.pures 2 rfl ?_)
      refine ExL.op rfl (op_ret rfl rfl rfl (c_l00In _ _ _) (fun _ _ => trivial) rfl rfl (fun x7 hx7 => ?_))
      refine ExL.pures 2 rfl ?_
      refine ExL.bool (d := 42) rfl (fun hb8 => ?_) (fun hb8 => ?_)
      · replace hb8 := nd_t hb8
        refine ExL.pures 10 rfl ?_
        refine ExL.nil ?_
        refine Ex.cond_t rfl ?_
        exfalso; omega
      · replace hb8 := nd_f hb8
        refine ExL.pures 1 rfl ?_
        refine ExL.op rfl (op_ret rfl rfl rfl (c_l00In _ _ _) (fun _ _ => trivial) rfl rfl (fun x9 hx9 => ?_))
        refine ExL.pures 3 rfl ?_
        refine ExL.bool (d := 47) rfl (fun hb10 => ?_) (fun hb10 => ?_)
        · replace hb10 := nd_t hb10
          refine ExL.pures 5 rfl ?_
          refine ExL.nil ?_
          refine Ex.cond_t rfl ?_
          exfalso; omega
        · replace hb10 := nd_f hb10
          refine ExL.pures 2 rfl ?_
          refine ExL.op rfl (op_ret rfl rfl rfl (c_l00In _ _ _) (fun _ _ => trivial) rfl rfl (fun x11 hx11 => ?_))
          refine ExL.pures 2 rfl ?_
          refine ExL.nil ?_
          refine Ex.cond rfl (fun hb12 => ?_) (fun hb12 => ?_)
          · replace hb12 := nd_t hb12
            exfalso; omega
          · replace hb12 := nd_f hb12
            refine Ex.skip ?_
            refine Ex.seq ?_
            refine Ex.nilRow 26 1 ?_
            refine Ex.pile0 ?_
            refine Ex.regSeq (ExL.pures 1 rfl ?_)
            refine ExL.nil ?_
            refine Ex.block ?_
            refine Ex.loopK (X := FSt) (fun q => [(13, .int .i64 q.K.length)]) (fun q => [.blk b1 [.slice As s.length cs, .slice q.A q.K.length q.c, .int .i64 lo, .int .i64 hi] 66, .row (.slice q.A q.K.length q.c) 26 1 q.K.length (q.K.flatMap encX), .pile (q.K.map (rwX (eI .i64) 2 1))]) (fun q => q.K.length ≤ L.length ∧ q.K.map (·.xs) = (filmL s L).take q.K.length ∧ ∀ i, i < q.K.length → decide (400 < choV (L.getD i zPh).l s.length) = false) (fun q => L.length - q.K.length) ⟨none, 0, []⟩ [(0, _), (1, _), (10, _)] [] 3 [2, 1, 0] ⟨rfl, trivial⟩ ⟨rfl, rfl, rfl, trivial⟩ (rfl) rfl ⟨Nat.zero_le _, rfl, fun i hi => by simp at hi⟩ (fun q hI => ?_)
            have hI : q.K.length ≤ L.length ∧ q.K.map (·.xs) = (filmL s L).take q.K.length ∧ ∀ i, i < q.K.length → decide (400 < choV (L.getD i zPh).l s.length) = false := hI
            obtain ⟨hK, hKm, hall⟩ := hI
            refine Ex.seq ?_
            refine Ex.regSeq (ExL.pures 3 rfl ?_)
            refine ExL.lss rfl rfl rfl rfl rfl rfl (fun h13 => ?_) (fun h13 => ?_)
            · refine ExL.nil ?_
              refine Ex.cond_t rfl ?_
              refine Ex.skip ?_
              refine Ex.seq ?_
              refine Ex.block ?_
              refine Ex.seq ?_
              refine Ex.regSeq (ExL.pures 2 rfl ?_)
              refine ExL.free (fr_indexAddrP (Reads.old hLr) encPh_len rfl rfl rfl rfl rfl rfl (by omega)) rfl rfl rfl ?_
              refine ExL.pures 2 rfl ?_
              refine ExL.op rfl (op_ret rfl rfl rfl (c_l05Choices s (by first | assumption | exact stk (by assumption)) (L.getD q.K.length zPh) (hLp _ (by omega)) (hLk _ (by omega)) _ _ s.length (by omega)) (Reads.get (Reads.elemP (Reads.old hLr) encPh_len zPh (by omega))) rfl rfl (fun x14 hx14 => ?_))
              refine ExL.gtr rfl rfl rfl rfl rfl rfl (fun h15 => ?_) (fun h15 => ?_)
              · refine ExL.nil ?_
                refine Ex.cond_t rfl ?_
                have h9 := any_at (d := zPh) hmy (k := q.K.length) (by omega)
                rw [decide_eq_false_iff_not] at h9
                exfalso; omega
              · refine ExL.nil ?_
                refine Ex.cond_f rfl ?_
                refine Ex.skip ?_
                refine Ex.drawI [2] rfl rfl ?_
                refine ExD.take (i := 0) rfl (by kernel_rfl) (pureVal_ok rfl) ((List.Sublist.cons _ (List.Sublist.cons _ (List.Sublist.refl _)))) rfl rfl rfl ?_
                refine ExD.take (i := 1) rfl (by kernel_rfl) (pureVal_ok rfl) ((List.Sublist.cons _ (List.Sublist.cons _ (List.Sublist.refl _)))) rfl rfl rfl ?_
                refine ExD.take (i := 2) rfl (by kernel_rfl) (pureVal_ok rfl) ((List.Sublist.cons _ (List.Sublist.cons _ (List.Sublist.refl _)))) rfl rfl rfl ?_
                refine ExD.take (i := 3) rfl (by kernel_rfl) (pureVal_ok rfl) ((List.Sublist.cons _ (List.Sublist.cons _ (List.Sublist.refl _)))) rfl rfl rfl ?_
                refine ExD.take (i := 5) rfl (by kernel_rfl) (pureVal_ok rfl) ((List.Sublist.cons _ (List.Sublist.cons _ (List.Sublist.refl _)))) rfl rfl rfl ?_
                refine ExD.take (i := 6) rfl (by kernel_rfl) (pureVal_ok rfl) ((List.Sublist.cons _ (List.Sublist.cons _ (List.Sublist.refl _)))) rfl rfl rfl ?_
                refine ExD.take (i := 7) rfl (by kernel_rfl) (pureVal_ok rfl) ((List.Sublist.cons _ (List.Sublist.cons _ (List.Sublist.refl _)))) rfl rfl rfl ?_
                refine ExD.take (i := 8) rfl (by kernel_rfl) (fr_indexAddrP (Reads.old hLr) encPh_len rfl rfl rfl rfl rfl rfl (by omega)) ((List.Sublist.cons _ (List.Sublist.cons _ (List.Sublist.refl _)))) rfl rfl rfl ?_
                refine ExD.fork (i := 4) (j := 9) rfl rfl (by kernel_rfl) rfl rfl (Op1.of_free (fr_load rfl rfl rfl rfl (CellO.blk (i := 0) rfl rfl)) rfl rfl ⟨(List.Sublist.cons _ (List.Sublist.cons _ (List.Sublist.refl _))), ?_⟩) (op_ret rfl rfl rfl (c_l05Values s (by first | assumption | simp_all) _ _ (L.getD q.K.length zPh) (hLk _ (by omega)) _ _ (hLp _ (by omega))) (fun w hw => ⟨Reads.get (Reads.old hs) w hw, Reads.get (Reads.elemP (Reads.old hLr) encPh_len zPh (by omega)) w hw⟩) rfl rfl (fun x16 hx16 => ⟨(List.Sublist.cons _ (List.Sublist.cons _ (List.Sublist.cons _ (List.Sublist.refl _)))), ?_⟩))
                · refine ExD.op (i := 9) rfl (by kernel_rfl) rfl (op_ret rfl rfl rfl (c_l05Values s (by first | assumption | simp_all) _ _ (L.getD q.K.length zPh) (hLk _ (by omega)) _ _ (hLp _ (by omega))) (fun w hw => ⟨Reads.get (Reads.old hs) w hw, Reads.get (Reads.elemP (Reads.old hLr) encPh_len zPh (by omega)) w hw⟩) rfl rfl (fun x17 hx17 => ⟨(List.Sublist.cons _ (List.Sublist.cons _ (List.Sublist.cons _ (List.Sublist.refl _)))), ?_⟩))
                  refine ExD.op (i := 10) rfl (by kernel_rfl) rfl (op_buildSlice (sz := 1) rfl rfl rfl rfl rfl rfl rfl rfl (by decide) rfl rfl rfl (fun r18 => ⟨(List.Sublist.cons _ (List.Sublist.cons _ (List.Sublist.cons _ (List.Sublist.cons _ (List.Sublist.refl _))))), ?_⟩))
                  refine ExD.op (i := 11) rfl (by kernel_rfl) rfl (op_append (sz := 1) (bytes := 24) (i := 3) rfl rfl rfl rfl (Reads.row (i := 0) rfl) rfl (fun e => nomatch e) rfl rfl rfl rfl (by constructor <;> first | omega | (unfold maxLen; omega)) rfl rfl (fun A19 cA19 => ⟨(List.Sublist.cons _ (List.Sublist.cons _ (List.Sublist.cons _ (List.Sublist.cons _ (List.Sublist.refl _))))), ?_⟩))
                  refine ExD.take (i := 12) rfl (by kernel_rfl) (pureVal_ok rfl) ((List.Sublist.cons _ (List.Sublist.cons _ (List.Sublist.cons _ (List.Sublist.cons _ (List.Sublist.refl _)))))) rfl rfl rfl ?_
                  refine ExD.take (i := 13) rfl (by kernel_rfl) (pureVal_ok rfl) ((List.Sublist.cons _ (List.Sublist.cons _ (List.Sublist.cons _ (List.Sublist.cons _ (List.Sublist.refl _)))))) rfl rfl rfl ?_
                  refine ExD.op (i := 14) rfl (by kernel_rfl) rfl (op_storeC (i := 2) rfl rfl rfl rfl rfl rfl rfl rfl rfl rfl ⟨(List.Sublist.cons _ (List.Sublist.cons _ (List.Sublist.cons _ (List.Sublist.cons _ (List.Sublist.refl _))))), ?_⟩)
                  refine ExD.done (by kernel_rfl) ?_
                  refine Ex.conv (layEnd (perm_lt (i := 1) (j := 4) rfl rfl rfl)) ?_
                  refine Ex.region (ExL.pures 1 rfl ?_)
                  refine ExL.free (by first | exact fr_add64 rfl rfl rfl (by omega) | exact fr_add rfl rfl rfl) rfl rfl rfl ?_
                  refine ExL.pures 1 rfl ?_
                  refine ExL.nil ?_
                  have hKn : (q.K ++ [(⟨x17.1, x17.2, valsP s (L.getD q.K.length zPh)⟩ : VX Int)]).length = q.K.length + 1 := by simp
                  refine Hand.mk (⟨A19, cA19, q.K ++ [(⟨x17.1, x17.2, valsP s (L.getD q.K.length zPh)⟩ : VX Int)]⟩) 4 [2, 3, 0] ⟨agI (by first | rfl | (simp; done) | (dsimp only; rw [hKn]; rfl)), trivial⟩ ⟨rfl, rfl, rfl, trivial⟩ (by first | rfl | (simp only [List.map_append, List.flatMap_append, hKn]; rfl)) rfl (⟨by dsimp only; omega, kx_step hKm (by omega) rfl, by dsimp only; rw [hKn]; exact all_snoc hall (by first | exact decide_eq_false (by omega) | (simp; omega))⟩) (by dsimp only; omega)
                · refine ExD.fork (i := 4) (j := 10) rfl rfl (by kernel_rfl) rfl rfl (Op1.of_free (fr_load rfl rfl rfl rfl (CellO.blk (i := 1) rfl rfl)) rfl rfl ⟨(List.Sublist.cons _ (List.Sublist.cons _ (List.Sublist.cons _ (List.Sublist.refl _)))), ?_⟩) (op_buildSlice (sz := 1) rfl rfl rfl rfl rfl rfl rfl rfl (by decide) rfl rfl rfl (fun r21 => ⟨(List.Sublist.cons _ (List.Sublist.cons _ (List.Sublist.cons _ (List.Sublist.cons _ (List.Sublist.refl _))))), ?_⟩))
                  · refine ExD.op (i := 10) rfl (by kernel_rfl) rfl (op_buildSlice (sz := 1) rfl rfl rfl rfl rfl rfl rfl rfl (by decide) rfl rfl rfl (fun r22 => ⟨(List.Sublist.cons _ (List.Sublist.cons _ (List.Sublist.cons _ (List.Sublist.cons _ (List.Sublist.refl _))))), ?_⟩))
                    refine ExD.op (i := 11) rfl (by kernel_rfl) rfl (op_append (sz := 1) (bytes := 24) (i := 3) rfl rfl rfl rfl (Reads.row (i := 0) rfl) rfl (fun e => nomatch e) rfl rfl rfl rfl (by constructor <;> first | omega | (unfold maxLen; omega)) rfl rfl (fun A23 cA23 => ⟨(List.Sublist.cons _ (List.Sublist.cons _ (List.Sublist.cons _ (List.Sublist.cons _ (List.Sublist.refl _))))), ?_⟩))
                    refine ExD.take (i := 12) rfl (by kernel_rfl) (pureVal_ok rfl) ((List.Sublist.cons _ (List.Sublist.cons _ (List.Sublist.cons _ (List.Sublist.cons _ (List.Sublist.refl _)))))) rfl rfl rfl ?_
                    refine ExD.take (i := 13) rfl (by kernel_rfl) (pureVal_ok rfl) ((List.Sublist.cons _ (List.Sublist.cons _ (List.Sublist.cons _ (List.Sublist.cons _ (List.Sublist.refl _)))))) rfl rfl rfl ?_
                    refine ExD.op (i := 14) rfl (by kernel_rfl) rfl (op_storeC (i := 2) rfl rfl rfl rfl rfl rfl rfl rfl rfl rfl ⟨(List.Sublist.cons _ (List.Sublist.cons _ (List.Sublist.cons _ (List.Sublist.cons _ (List.Sublist.refl _))))), ?_⟩)
                    refine ExD.done (by kernel_rfl) ?_
                    refine Ex.conv (layEnd (perm_lt (i := 1) (j := 4) rfl rfl rfl)) ?_
                    refine Ex.region (ExL.pures 1 rfl ?_)
                    refine ExL.free (by first | exact fr_add64 rfl rfl rfl (by omega) | exact fr_add rfl rfl rfl) rfl rfl rfl ?_
                    refine ExL.pures 1 rfl ?_
                    refine ExL.nil ?_
                    have hKn : (q.K ++ [(⟨x16.1, x16.2, valsP s (L.getD q.K.length zPh)⟩ : VX Int)]).length = q.K.length + 1 := by simp
                    refine Hand.mk (⟨A23, cA23, q.K ++ [(⟨x16.1, x16.2, valsP s (L.getD q.K.length zPh)⟩ : VX Int)]⟩) 4 [2, 3, 0] ⟨agI (by first | rfl | (simp; done) | (dsimp only; rw [hKn]; rfl)), trivial⟩ ⟨rfl, rfl, rfl, trivial⟩ (by first | rfl | (simp only [List.map_append, List.flatMap_append, hKn]; rfl)) rfl (⟨by dsimp only; omega, kx_step hKm (by omega) rfl, by dsimp only; rw [hKn]; exact all_snoc hall (by first | exact decide_eq_false (by omega) | (simp; omega))⟩) (by dsimp only; omega)
                  · refine ExD.op (i := 4) rfl (by kernel_rfl) rfl (Op1.of_free (fr_load rfl rfl rfl rfl (CellO.blk (i := 2) rfl rfl)) rfl rfl ⟨(List.Sublist.cons _ (List.Sublist.cons _ (List.Sublist.cons _ (List.Sublist.cons _ (List.Sublist.refl _))))), ?_⟩)
                    refine ExD.op (i := 11) rfl (by kernel_rfl) rfl (op_append (sz := 1) (bytes := 24) (i := 3) rfl rfl rfl rfl (Reads.row (i := 0) rfl) rfl (fun e => nomatch e) rfl rfl rfl rfl (by constructor <;> first | omega | (unfold maxLen; omega)) rfl rfl (fun A25 cA25 => ⟨(List.Sublist.cons _ (List.Sublist.cons _ (List.Sublist.cons _ (List.Sublist.cons _ (List.Sublist.refl _))))), ?_⟩))
                    refine ExD.take (i := 12) rfl (by kernel_rfl) (pureVal_ok rfl) ((List.Sublist.cons _ (List.Sublist.cons _ (List.Sublist.cons _ (List.Sublist.cons _ (List.Sublist.refl _)))))) rfl rfl rfl ?_
                    refine ExD.take (i := 13) rfl (by kernel_rfl) (pureVal_ok rfl) ((List.Sublist.cons _ (List.Sublist.cons _ (List.Sublist.cons _ (List.Sublist.cons _ (List.Sublist.refl _)))))) rfl rfl rfl ?_
                    refine ExD.op (i := 14) rfl (by kernel_rfl) rfl (op_storeC (i := 2) rfl rfl rfl rfl rfl rfl rfl rfl rfl rfl ⟨(List.Sublist.cons _ (List.Sublist.cons _ (List.Sublist.cons _ (List.Sublist.cons _ (List.Sublist.refl _))))), ?_⟩)
                    refine ExD.done (by kernel_rfl) ?_
                    refine Ex.conv (layEnd (perm_lt (i := 1) (j := 4) rfl rfl rfl)) ?_
                    refine Ex.region (ExL.pures 1 rfl ?_)
                    refine ExL.free (by first | exact fr_add64 rfl rfl rfl (by omega) | exact fr_add rfl rfl rfl) rfl rfl rfl ?_
                    refine ExL.pures 1 rfl ?_
                    refine ExL.nil ?_
                    have hKn : (q.K ++ [(⟨x16.1, x16.2, valsP s (L.getD q.K.length zPh)⟩ : VX Int)]).length = q.K.length + 1 := by simp
                    refine Hand.mk (⟨A25, cA25, q.K ++ [(⟨x16.1, x16.2, valsP s (L.getD q.K.length zPh)⟩ : VX Int)]⟩) 4 [2, 3, 0] ⟨agI (by first | rfl | (simp; done) | (dsimp only; rw [hKn]; rfl)), trivial⟩ ⟨rfl, rfl, rfl, trivial⟩ (by first | rfl | (simp only [List.map_append, List.flatMap_append, hKn]; rfl)) rfl (⟨by dsimp only; omega, kx_step hKm (by omega) rfl, by dsimp only; rw [hKn]; exact all_snoc hall (by first | exact decide_eq_false (by omega) | (simp; omega))⟩) (by dsimp only; omega)
            · refine ExL.nil ?_
              refine Ex.cond_f rfl ?_
              refine Ex.exit ?_
              have hKn : q.K.length = L.length := by omega
              have hKe := kx_fin hKm hKn
              refine Ex.regSeq (ExL.pures 3 rfl ?_)
              refine ExL.nil ?_
              refine Ex.ret ?_
              refine RetQ.mk ⟨b1, q.A, q.c, q.K⟩ rfl (.tmp rfl (.tmp rfl .nil)) (rfl) [0, 1, 2] (rfl) rfl (hKe)
theorem c_l05Begin_f (s : List Int) (hu : Nums 255 s) (As : Option Addr) (cs : Nat) (hls : s.length ≤ maxLen) (L : List VPh) (hLk : ∀ k, k < L.length → OkPh (L.getD k zPh)) (bl cL : Nat) (hlL : L.length ≤ maxLen) (lo hi : Int) (hc0 : codeF s L lo hi lo ≠ 0) : Ret Try.prog 27 [.slice As s.length cs, .slice (some ⟨bl, 0, none⟩) L.length cL, .int .i64 lo, .int .i64 hi] (fun w => Rd w As (s.flatMap (eI .u8)) ∧ Rd w (some ⟨bl, 0, none⟩) (L.flatMap encPh)) (fun x : Nat => .tuple #[.pointer (some ⟨x, 0, none⟩), .int .i64 (codeF s L lo hi lo)]) (fun x => []) (fun x => True) := by
  refine Ret.of e_27 Try.func27 rfl Try.ntmps27 rfl rfl (fun w hpre => ?_)
  have hs := hpre.1.base
  have hLr := hpre.2.base
  have hm0 : maxLen = 9223372036854775807 := rfl
  refine Ex.regSeq (ExL.pures 2 rfl ?_)
  refine ExL.nil ?_
  refine Ex.regSeq (ExL.pures 3 rfl ?_)
  refine ExL.free (fr_build rfl rfl rfl rfl) rfl rfl rfl ?_
  refine ExL.op rfl (op_box rfl rfl rfl rfl rfl (fun b1 => ?_))
  refine ExL.pures 1 rfl ?_
  refine ExL.nil ?_
  refine Ex.regSeq (ExL.pures 1 rfl ?_)
  refine ExL.op rfl (op_ret rfl rfl rfl (c_l01Ok _ (by assumption) _ _ (by first | assumption | omega | (unfold maxLen; omega))) (Reads.get (Reads.old hs)) rfl rfl (fun x2 hx2 => ?_))
  refine ExL.pures 1 rfl ?_
  refine ExL.nil ?_
  refine Ex.seq ?_
  refine Ex.regSeq (ExL.pures 1 rfl ?_)
  refine ExL.nil ?_
  refine Ex.block ?_
  refine Ex.loopK (X := Nat) (fun k => [(11, .bool (okK s L k)), (12, .int .i64 k)]) (fun k => []) (fun k => k ≤ L.length) (fun k => L.length - k) 0 [(0, _), (1, _), (2, _), (3, _), (8, _), (9, _), (10, _)] [_] 1 [0] ⟨agB (okK_0 s L).symm, rfl, trivial⟩ ⟨rfl, rfl, rfl, rfl, rfl, rfl, rfl, trivial⟩ (rfl) rfl (Nat.zero_le _) (fun k hI => ?_)
  have hI : k ≤ L.length := hI
  refine Ex.seq ?_
  refine Ex.regSeq (ExL.pures 3 rfl ?_)
  refine ExL.lss rfl rfl rfl rfl rfl rfl (fun h3 => ?_) (fun h3 => ?_)
  · refine ExL.pures 3 rfl ?_
    refine ExL.nil ?_
    refine Ex.cond rfl (fun hb4 => ?_) (fun hb4 => ?_)
    · rw [hb4]
      refine Ex.skip ?_
      refine Ex.seq ?_
      refine Ex.block ?_
      have hv6 := okK_v (s := s) (L := L) (k := k) (by assumption)
      refine Ex.region (ExL.pures 3 rfl ?_)
      refine ExL.free (fr_indexAddrP (Reads.old hLr) encPh_len rfl rfl rfl rfl rfl rfl (by omega)) rfl rfl rfl ?_
      refine ExL.op rfl (op_ret rfl rfl rfl (c_l05Ok s (by first | assumption | simp_all) _ _ (L.getD k zPh) (hLk _ (by omega)) _ _) (fun w hw => ⟨Reads.get (Reads.old hs) w hw, Reads.get (Reads.elemP (Reads.old hLr) encPh_len zPh (by omega)) w hw⟩) rfl rfl (fun x5 hx5 => ?_))
      refine ExL.pures 1 rfl ?_
      refine ExL.nil ?_
      refine Ex.region (ExL.pures 1 rfl ?_)
      refine ExL.free (by first | exact fr_add64 rfl rfl rfl (by omega) | exact fr_add rfl rfl rfl) rfl rfl rfl ?_
      refine ExL.pures 1 rfl ?_
      refine ExL.nil ?_
      refine Hand.mk (k + 1) 1 [0] ⟨agB (okK_s (by assumption)).symm, rfl, trivial⟩ ⟨rfl, rfl, rfl, rfl, rfl, rfl, rfl, trivial⟩ (rfl) rfl (by omega) (by omega)
    · rw [hb4]
      refine Ex.exit ?_
      refine Ex.seq ?_
      refine Ex.regSeq (ExL.pures 2 rfl ?_)
      refine ExL.nil ?_
      refine Ex.cond_t rfl ?_
      refine Ex.regSeq (ExL.pures 3 rfl ?_)
      refine ExL.nil ?_
      refine Ex.ret ?_
      refine RetQ.mk b1 rfl (.tmp rfl (.tmp rfl .nil)) (t2 rfl (vI (by first | (rw [cf_1 (okK_no (k := k) (by omega) (by assumption))]; first | done | rfl) | (rw [bad_3 (by assumption) (by assumption) (by omega)]; first | done | rfl) | (rw [bad_4 (k := q.K.length) hv hnb (by omega) (by omega) (by omega)]; first | done | rfl)))) [] (rfl) rfl (trivial)
  · refine ExL.pures 3 rfl ?_
    refine ExL.nil ?_
    refine Ex.cond_f rfl ?_
    refine Ex.exit ?_
    refine Ex.seq ?_
    refine Ex.regSeq (ExL.pures 2 rfl ?_)
    refine ExL.nil ?_
    refine Ex.cond rfl (fun hb6 => ?_) (fun hb6 => ?_)
    · replace hb6 := nb_t hb6
      refine Ex.regSeq (ExL.pures 3 rfl ?_)
      refine ExL.nil ?_
      refine Ex.ret ?_
      refine RetQ.mk b1 rfl (.tmp rfl (.tmp rfl .nil)) (t2 rfl (vI (by first | (rw [cf_1 (okK_no (k := k) (by omega) (by assumption))]; first | done | rfl) | (rw [bad_3 (by assumption) (by assumption) (by omega)]; first | done | rfl) | (rw [bad_4 (k := q.K.length) hv hnb (by omega) (by omega) (by omega)]; first | done | rfl)))) [] (rfl) rfl (trivial)
    · replace hb6 := nb_f hb6
      refine Ex.skip ?_
      refine Ex.seq ?_
      obtain ⟨hv, hnb⟩ := okK_end (s := s) (L := L) (k := k) (by omega) (by assumption)
      have hS := stk hv
      have hLp := okLp hLk hv hnb
      refine Ex.regSeq (ExL.pures 2 rfl ?_)
      refine ExL.op rfl (op_ret rfl rfl rfl (c_l00In _ _ _) (fun _ _ => trivial) rfl rfl (fun x7 hx7 => ?_))
      refine ExL.pures 2 rfl ?_
      refine ExL.bool (d := 42) rfl (fun hb8 => ?_) (fun hb8 => ?_)
      · replace hb8 := nd_t hb8
        refine ExL.pures 10 rfl ?_
        refine ExL.nil ?_
        refine Ex.cond_t rfl ?_
        refine Ex.regSeq (ExL.pures 3 rfl ?_)
        refine ExL.nil ?_
        refine Ex.ret ?_
        refine RetQ.mk b1 rfl (.tmp rfl (.tmp rfl .nil)) (t2 rfl (vI (by first | (rw [cf_1 (okK_no (k := k) (by omega) (by assumption))]; first | done | rfl) | (rw [bad_3 (by assumption) (by assumption) (by omega)]; first | done | rfl) | (rw [bad_4 (k := q.K.length) hv hnb (by omega) (by omega) (by omega)]; first | done | rfl)))) [] (rfl) rfl (trivial)
      · replace hb8 := nd_f hb8
        refine ExL.pures 1 rfl ?_
        refine ExL.op rfl (op_ret rfl rfl rfl (c_l00In _ _ _) (fun _ _ => trivial) rfl rfl (fun x9 hx9 => ?_))
        refine ExL.pures 3 rfl ?_
        refine ExL.bool (d := 47) rfl (fun hb10 => ?_) (fun hb10 => ?_)
        · replace hb10 := nd_t hb10
          refine ExL.pures 5 rfl ?_
          refine ExL.nil ?_
          refine Ex.cond_t rfl ?_
          refine Ex.regSeq (ExL.pures 3 rfl ?_)
          refine ExL.nil ?_
          refine Ex.ret ?_
          refine RetQ.mk b1 rfl (.tmp rfl (.tmp rfl .nil)) (t2 rfl (vI (by first | (rw [cf_1 (okK_no (k := k) (by omega) (by assumption))]; first | done | rfl) | (rw [bad_3 (by assumption) (by assumption) (by omega)]; first | done | rfl) | (rw [bad_4 (k := q.K.length) hv hnb (by omega) (by omega) (by omega)]; first | done | rfl)))) [] (rfl) rfl (trivial)
        · replace hb10 := nd_f hb10
          refine ExL.pures 2 rfl ?_
          refine ExL.op rfl (op_ret rfl rfl rfl (c_l00In _ _ _) (fun _ _ => trivial) rfl rfl (fun x11 hx11 => ?_))
          refine ExL.pures 2 rfl ?_
          refine ExL.nil ?_
          refine Ex.cond rfl (fun hb12 => ?_) (fun hb12 => ?_)
          · replace hb12 := nd_t hb12
            refine Ex.regSeq (ExL.pures 3 rfl ?_)
            refine ExL.nil ?_
            refine Ex.ret ?_
            refine RetQ.mk b1 rfl (.tmp rfl (.tmp rfl .nil)) (t2 rfl (vI (by first | (rw [cf_1 (okK_no (k := k) (by omega) (by assumption))]; first | done | rfl) | (rw [bad_3 (by assumption) (by assumption) (by omega)]; first | done | rfl) | (rw [bad_4 (k := q.K.length) hv hnb (by omega) (by omega) (by omega)]; first | done | rfl)))) [] (rfl) rfl (trivial)
          · replace hb12 := nd_f hb12
            refine Ex.skip ?_
            refine Ex.seq ?_
            refine Ex.nilRow 26 1 ?_
            refine Ex.pile0 ?_
            refine Ex.regSeq (ExL.pures 1 rfl ?_)
            refine ExL.nil ?_
            refine Ex.block ?_
            refine Ex.loopK (X := FSt) (fun q => [(13, .int .i64 q.K.length)]) (fun q => [.blk b1 [.slice As s.length cs, .slice q.A q.K.length q.c, .int .i64 lo, .int .i64 hi] 66, .row (.slice q.A q.K.length q.c) 26 1 q.K.length (q.K.flatMap encX), .pile (q.K.map (rwX (eI .i64) 2 1))]) (fun q => q.K.length ≤ L.length ∧ q.K.map (·.xs) = (filmL s L).take q.K.length ∧ ∀ i, i < q.K.length → decide (400 < choV (L.getD i zPh).l s.length) = false) (fun q => L.length - q.K.length) ⟨none, 0, []⟩ [(0, _), (1, _), (10, _)] [] 3 [2, 1, 0] ⟨rfl, trivial⟩ ⟨rfl, rfl, rfl, trivial⟩ (rfl) rfl ⟨Nat.zero_le _, rfl, fun i hi => by simp at hi⟩ (fun q hI => ?_)
            have hI : q.K.length ≤ L.length ∧ q.K.map (·.xs) = (filmL s L).take q.K.length ∧ ∀ i, i < q.K.length → decide (400 < choV (L.getD i zPh).l s.length) = false := hI
            obtain ⟨hK, hKm, hall⟩ := hI
            refine Ex.seq ?_
            refine Ex.regSeq (ExL.pures 3 rfl ?_)
            refine ExL.lss rfl rfl rfl rfl rfl rfl (fun h13 => ?_) (fun h13 => ?_)
            · refine ExL.nil ?_
              refine Ex.cond_t rfl ?_
              refine Ex.skip ?_
              refine Ex.seq ?_
              refine Ex.block ?_
              refine Ex.seq ?_
              refine Ex.regSeq (ExL.pures 2 rfl ?_)
              refine ExL.free (fr_indexAddrP (Reads.old hLr) encPh_len rfl rfl rfl rfl rfl rfl (by omega)) rfl rfl rfl ?_
              refine ExL.pures 2 rfl ?_
              refine ExL.op rfl (op_ret rfl rfl rfl (c_l05Choices s (by first | assumption | exact stk (by assumption)) (L.getD q.K.length zPh) (hLp _ (by omega)) (hLk _ (by omega)) _ _ s.length (by omega)) (Reads.get (Reads.elemP (Reads.old hLr) encPh_len zPh (by omega))) rfl rfl (fun x14 hx14 => ?_))
              refine ExL.gtr rfl rfl rfl rfl rfl rfl (fun h15 => ?_) (fun h15 => ?_)
              · refine ExL.nil ?_
                refine Ex.cond_t rfl ?_
                refine Ex.regSeq (ExL.pures 3 rfl ?_)
                refine ExL.nil ?_
                refine Ex.ret ?_
                refine RetQ.mk b1 rfl (.tmp rfl (.tmp rfl .nil)) (t2 rfl (vI (by first | (rw [cf_1 (okK_no (k := k) (by omega) (by assumption))]; first | done | rfl) | (rw [bad_3 (by assumption) (by assumption) (by omega)]; first | done | rfl) | (rw [bad_4 (k := q.K.length) hv hnb (by omega) (by omega) (by omega)]; first | done | rfl)))) [] (rfl) rfl (trivial)
              · refine ExL.nil ?_
                refine Ex.cond_f rfl ?_
                refine Ex.skip ?_
                refine Ex.drawI [2] rfl rfl ?_
                refine ExD.take (i := 0) rfl (by kernel_rfl) (pureVal_ok rfl) ((List.Sublist.cons _ (List.Sublist.cons _ (List.Sublist.refl _)))) rfl rfl rfl ?_
                refine ExD.take (i := 1) rfl (by kernel_rfl) (pureVal_ok rfl) ((List.Sublist.cons _ (List.Sublist.cons _ (List.Sublist.refl _)))) rfl rfl rfl ?_
                refine ExD.take (i := 2) rfl (by kernel_rfl) (pureVal_ok rfl) ((List.Sublist.cons _ (List.Sublist.cons _ (List.Sublist.refl _)))) rfl rfl rfl ?_
                refine ExD.take (i := 3) rfl (by kernel_rfl) (pureVal_ok rfl) ((List.Sublist.cons _ (List.Sublist.cons _ (List.Sublist.refl _)))) rfl rfl rfl ?_
                refine ExD.take (i := 5) rfl (by kernel_rfl) (pureVal_ok rfl) ((List.Sublist.cons _ (List.Sublist.cons _ (List.Sublist.refl _)))) rfl rfl rfl ?_
                refine ExD.take (i := 6) rfl (by kernel_rfl) (pureVal_ok rfl) ((List.Sublist.cons _ (List.Sublist.cons _ (List.Sublist.refl _)))) rfl rfl rfl ?_
                refine ExD.take (i := 7) rfl (by kernel_rfl) (pureVal_ok rfl) ((List.Sublist.cons _ (List.Sublist.cons _ (List.Sublist.refl _)))) rfl rfl rfl ?_
                refine ExD.take (i := 8) rfl (by kernel_rfl) (fr_indexAddrP (Reads.old hLr) encPh_len rfl rfl rfl rfl rfl rfl (by omega)) ((List.Sublist.cons _ (List.Sublist.cons _ (List.Sublist.refl _)))) rfl rfl rfl ?_
                refine ExD.fork (i := 4) (j := 9) rfl rfl (by kernel_rfl) rfl rfl (Op1.of_free (fr_load rfl rfl rfl rfl (CellO.blk (i := 0) rfl rfl)) rfl rfl ⟨(List.Sublist.cons _ (List.Sublist.cons _ (List.Sublist.refl _))), ?_⟩) (op_ret rfl rfl rfl (c_l05Values s (by first | assumption | simp_all) _ _ (L.getD q.K.length zPh) (hLk _ (by omega)) _ _ (hLp _ (by omega))) (fun w hw => ⟨Reads.get (Reads.old hs) w hw, Reads.get (Reads.elemP (Reads.old hLr) encPh_len zPh (by omega)) w hw⟩) rfl rfl (fun x16 hx16 => ⟨(List.Sublist.cons _ (List.Sublist.cons _ (List.Sublist.cons _ (List.Sublist.refl _)))), ?_⟩))
                · refine ExD.op (i := 9) rfl (by kernel_rfl) rfl (op_ret rfl rfl rfl (c_l05Values s (by first | assumption | simp_all) _ _ (L.getD q.K.length zPh) (hLk _ (by omega)) _ _ (hLp _ (by omega))) (fun w hw => ⟨Reads.get (Reads.old hs) w hw, Reads.get (Reads.elemP (Reads.old hLr) encPh_len zPh (by omega)) w hw⟩) rfl rfl (fun x17 hx17 => ⟨(List.Sublist.cons _ (List.Sublist.cons _ (List.Sublist.cons _ (List.Sublist.refl _)))), ?_⟩))
                  refine ExD.op (i := 10) rfl (by kernel_rfl) rfl (op_buildSlice (sz := 1) rfl rfl rfl rfl rfl rfl rfl rfl (by decide) rfl rfl rfl (fun r18 => ⟨(List.Sublist.cons _ (List.Sublist.cons _ (List.Sublist.cons _ (List.Sublist.cons _ (List.Sublist.refl _))))), ?_⟩))
                  refine ExD.op (i := 11) rfl (by kernel_rfl) rfl (op_append (sz := 1) (bytes := 24) (i := 3) rfl rfl rfl rfl (Reads.row (i := 0) rfl) rfl (fun e => nomatch e) rfl rfl rfl rfl (by constructor <;> first | omega | (unfold maxLen; omega)) rfl rfl (fun A19 cA19 => ⟨(List.Sublist.cons _ (List.Sublist.cons _ (List.Sublist.cons _ (List.Sublist.cons _ (List.Sublist.refl _))))), ?_⟩))
                  refine ExD.take (i := 12) rfl (by kernel_rfl) (pureVal_ok rfl) ((List.Sublist.cons _ (List.Sublist.cons _ (List.Sublist.cons _ (List.Sublist.cons _ (List.Sublist.refl _)))))) rfl rfl rfl ?_
                  refine ExD.take (i := 13) rfl (by kernel_rfl) (pureVal_ok rfl) ((List.Sublist.cons _ (List.Sublist.cons _ (List.Sublist.cons _ (List.Sublist.cons _ (List.Sublist.refl _)))))) rfl rfl rfl ?_
                  refine ExD.op (i := 14) rfl (by kernel_rfl) rfl (op_storeC (i := 2) rfl rfl rfl rfl rfl rfl rfl rfl rfl rfl ⟨(List.Sublist.cons _ (List.Sublist.cons _ (List.Sublist.cons _ (List.Sublist.cons _ (List.Sublist.refl _))))), ?_⟩)
                  refine ExD.done (by kernel_rfl) ?_
                  refine Ex.conv (layEnd (perm_lt (i := 1) (j := 4) rfl rfl rfl)) ?_
                  refine Ex.region (ExL.pures 1 rfl ?_)
                  refine ExL.free (by first | exact fr_add64 rfl rfl rfl (by omega) | exact fr_add rfl rfl rfl) rfl rfl rfl ?_
                  refine ExL.pures 1 rfl ?_
                  refine ExL.nil ?_
                  have hKn : (q.K ++ [(⟨x17.1, x17.2, valsP s (L.getD q.K.length zPh)⟩ : VX Int)]).length = q.K.length + 1 := by simp
                  refine Hand.mk (⟨A19, cA19, q.K ++ [(⟨x17.1, x17.2, valsP s (L.getD q.K.length zPh)⟩ : VX Int)]⟩) 4 [2, 3, 0] ⟨agI (by first | rfl | (simp; done) | (dsimp only; rw [hKn]; rfl)), trivial⟩ ⟨rfl, rfl, rfl, trivial⟩ (by first | rfl | (simp only [List.map_append, List.flatMap_append, hKn]; rfl)) rfl (⟨by dsimp only; omega, kx_step hKm (by omega) rfl, by dsimp only; rw [hKn]; exact all_snoc hall (by first | exact decide_eq_false (by omega) | (simp; omega))⟩) (by dsimp only; omega)
                · refine ExD.fork (i := 4) (j := 10) rfl rfl (by kernel_rfl) rfl rfl (Op1.of_free (fr_load rfl rfl rfl rfl (CellO.blk (i := 1) rfl rfl)) rfl rfl ⟨(List.Sublist.cons _ (List.Sublist.cons _ (List.Sublist.cons _ (List.Sublist.refl _)))), ?_⟩) (op_buildSlice (sz := 1) rfl rfl rfl rfl rfl rfl rfl rfl (by decide) rfl rfl rfl (fun r21 => ⟨(List.Sublist.cons _ (List.Sublist.cons _ (List.Sublist.cons _ (List.Sublist.cons _ (List.Sublist.refl _))))), ?_⟩))
                  · refine ExD.op (i := 10) rfl (by kernel_rfl) rfl (op_buildSlice (sz := 1) rfl rfl rfl rfl rfl rfl rfl rfl (by decide) rfl rfl rfl (fun r22 => ⟨(List.Sublist.cons _ (List.Sublist.cons _ (List.Sublist.cons _ (List.Sublist.cons _ (List.Sublist.refl _))))), ?_⟩))
                    refine ExD.op (i := 11) rfl (by kernel_rfl) rfl (op_append (sz := 1) (bytes := 24) (i := 3) rfl rfl rfl rfl (Reads.row (i := 0) rfl) rfl (fun e => nomatch e) rfl rfl rfl rfl (by constructor <;> first | omega | (unfold maxLen; omega)) rfl rfl (fun A23 cA23 => ⟨(List.Sublist.cons _ (List.Sublist.cons _ (List.Sublist.cons _ (List.Sublist.cons _ (List.Sublist.refl _))))), ?_⟩))
                    refine ExD.take (i := 12) rfl (by kernel_rfl) (pureVal_ok rfl) ((List.Sublist.cons _ (List.Sublist.cons _ (List.Sublist.cons _ (List.Sublist.cons _ (List.Sublist.refl _)))))) rfl rfl rfl ?_
                    refine ExD.take (i := 13) rfl (by kernel_rfl) (pureVal_ok rfl) ((List.Sublist.cons _ (List.Sublist.cons _ (List.Sublist.cons _ (List.Sublist.cons _ (List.Sublist.refl _)))))) rfl rfl rfl ?_
                    refine ExD.op (i := 14) rfl (by kernel_rfl) rfl (op_storeC (i := 2) rfl rfl rfl rfl rfl rfl rfl rfl rfl rfl ⟨(List.Sublist.cons _ (List.Sublist.cons _ (List.Sublist.cons _ (List.Sublist.cons _ (List.Sublist.refl _))))), ?_⟩)
                    refine ExD.done (by kernel_rfl) ?_
                    refine Ex.conv (layEnd (perm_lt (i := 1) (j := 4) rfl rfl rfl)) ?_
                    refine Ex.region (ExL.pures 1 rfl ?_)
                    refine ExL.free (by first | exact fr_add64 rfl rfl rfl (by omega) | exact fr_add rfl rfl rfl) rfl rfl rfl ?_
                    refine ExL.pures 1 rfl ?_
                    refine ExL.nil ?_
                    have hKn : (q.K ++ [(⟨x16.1, x16.2, valsP s (L.getD q.K.length zPh)⟩ : VX Int)]).length = q.K.length + 1 := by simp
                    refine Hand.mk (⟨A23, cA23, q.K ++ [(⟨x16.1, x16.2, valsP s (L.getD q.K.length zPh)⟩ : VX Int)]⟩) 4 [2, 3, 0] ⟨agI (by first | rfl | (simp; done) | (dsimp only; rw [hKn]; rfl)), trivial⟩ ⟨rfl, rfl, rfl, trivial⟩ (by first | rfl | (simp only [List.map_append, List.flatMap_append, hKn]; rfl)) rfl (⟨by dsimp only; omega, kx_step hKm (by omega) rfl, by dsimp only; rw [hKn]; exact all_snoc hall (by first | exact decide_eq_false (by omega) | (simp; omega))⟩) (by dsimp only; omega)
                  · refine ExD.op (i := 4) rfl (by kernel_rfl) rfl (Op1.of_free (fr_load rfl rfl rfl rfl (CellO.blk (i := 2) rfl rfl)) rfl rfl ⟨(List.Sublist.cons _ (List.Sublist.cons _ (List.Sublist.cons _ (List.Sublist.cons _ (List.Sublist.refl _))))), ?_⟩)
                    refine ExD.op (i := 11) rfl (by kernel_rfl) rfl (op_append (sz := 1) (bytes := 24) (i := 3) rfl rfl rfl rfl (Reads.row (i := 0) rfl) rfl (fun e => nomatch e) rfl rfl rfl rfl (by constructor <;> first | omega | (unfold maxLen; omega)) rfl rfl (fun A25 cA25 => ⟨(List.Sublist.cons _ (List.Sublist.cons _ (List.Sublist.cons _ (List.Sublist.cons _ (List.Sublist.refl _))))), ?_⟩))
                    refine ExD.take (i := 12) rfl (by kernel_rfl) (pureVal_ok rfl) ((List.Sublist.cons _ (List.Sublist.cons _ (List.Sublist.cons _ (List.Sublist.cons _ (List.Sublist.refl _)))))) rfl rfl rfl ?_
                    refine ExD.take (i := 13) rfl (by kernel_rfl) (pureVal_ok rfl) ((List.Sublist.cons _ (List.Sublist.cons _ (List.Sublist.cons _ (List.Sublist.cons _ (List.Sublist.refl _)))))) rfl rfl rfl ?_
                    refine ExD.op (i := 14) rfl (by kernel_rfl) rfl (op_storeC (i := 2) rfl rfl rfl rfl rfl rfl rfl rfl rfl rfl ⟨(List.Sublist.cons _ (List.Sublist.cons _ (List.Sublist.cons _ (List.Sublist.cons _ (List.Sublist.refl _))))), ?_⟩)
                    refine ExD.done (by kernel_rfl) ?_
                    refine Ex.conv (layEnd (perm_lt (i := 1) (j := 4) rfl rfl rfl)) ?_
                    refine Ex.region (ExL.pures 1 rfl ?_)
                    refine ExL.free (by first | exact fr_add64 rfl rfl rfl (by omega) | exact fr_add rfl rfl rfl) rfl rfl rfl ?_
                    refine ExL.pures 1 rfl ?_
                    refine ExL.nil ?_
                    have hKn : (q.K ++ [(⟨x16.1, x16.2, valsP s (L.getD q.K.length zPh)⟩ : VX Int)]).length = q.K.length + 1 := by simp
                    refine Hand.mk (⟨A25, cA25, q.K ++ [(⟨x16.1, x16.2, valsP s (L.getD q.K.length zPh)⟩ : VX Int)]⟩) 4 [2, 3, 0] ⟨agI (by first | rfl | (simp; done) | (dsimp only; rw [hKn]; rfl)), trivial⟩ ⟨rfl, rfl, rfl, trivial⟩ (by first | rfl | (simp only [List.map_append, List.flatMap_append, hKn]; rfl)) rfl (⟨by dsimp only; omega, kx_step hKm (by omega) rfl, by dsimp only; rw [hKn]; exact all_snoc hall (by first | exact decide_eq_false (by omega) | (simp; omega))⟩) (by dsimp only; omega)
            · refine ExL.nil ?_
              refine Ex.cond_f rfl ?_
              refine Ex.exit ?_
              have hKn : q.K.length = L.length := by omega
              have hKe := kx_fin hKm hKn
              exfalso; exact hc0 (cf_all hv hnb (by omega) (k := q.K.length) (by omega) hall)
end Go.Proofs.Ytdfgbocmjgjclaa

/- What these functions of the program hand back, each proved by walking its operations. -/
set_option linter.unusedVariables false
set_option linter.unusedSimpArgs false
set_option maxRecDepth 4000
namespace Go.Proofs.Ytdfgbocmjgjclaa
open Go Go.Sx Go.RowKit Go.W Go.Proofs
attribute [local irreducible] Ex ExL ExD Op1 Free RetQ MutQ Reads CellO SegO LoadsAs
theorem e_17 : Enters Try.prog 17 := Enters.of Try.func17 rfl
theorem c_iCheck_f (s : List Int) (hu : Nums 255 s) (As : Option Addr) (cs : Nat) (hls : s.length ≤ maxLen) (L : List VPh) (hLk : ∀ k, k < L.length → OkPh (L.getD k zPh)) (bl cL : Nat) (hlL : L.length ≤ maxLen) (lo hi : Int) (vs : List Int) (Avs : Option Addr) (cvs : Nat) (hlv : vs.length ≤ maxLen) (hc0 : codeF s L lo hi lo ≠ 0) : Ret Try.prog 17 [.slice As s.length cs, .slice (some ⟨bl, 0, none⟩) L.length cL, .slice Avs vs.length cvs, .int .i64 lo, .int .i64 hi] (fun w => Rd w As (s.flatMap (eI .u8)) ∧ Rd w (some ⟨bl, 0, none⟩) (L.flatMap encPh) ∧ Rd w Avs (vs.flatMap (eI .i64))) (fun x : Unit => .tuple #[.bool (checkV s L vs lo hi).1, .int .i64 (checkV s L vs lo hi).2]) (fun x => []) (fun x => True) := by
  refine Ret.of e_17 Try.func17 rfl Try.ntmps17 rfl rfl (fun w hpre => ?_)
  have hs := hpre.1.base
  have hLr := hpre.2.1.base
  have hvs := hpre.2.2.base
  have hm0 : maxLen = 9223372036854775807 := rfl
  refine Ex.regSeq (ExL.pures 2 rfl ?_)
  refine ExL.nil ?_
  refine Ex.regSeq (ExL.pures 5 rfl ?_)
  refine ExL.op rfl (op_ret rfl rfl rfl (c_filmOf_f s (by assumption) _ _ (by omega) L (by assumption) _ _ (by omega) lo hi lo hc0) (fun w hw => ⟨Reads.get (Reads.old hs) w hw, Reads.get (Reads.old hLr) w hw⟩) rfl rfl (fun x1 hx1 => ?_))
  refine ExL.pures 5 rfl ?_
  refine ExL.nil ?_
  refine Ex.seq ?_
  refine Ex.regSeq (ExL.pures 1 rfl ?_)
  refine ExL.neq rfl rfl rfl rfl rfl rfl (fun h2 => ?_) (fun h2 => ?_)
  · refine ExL.nil ?_
    refine Ex.cond_t rfl ?_
    refine Ex.regSeq (ExL.pures 3 rfl ?_)
    refine ExL.nil ?_
    refine Ex.ret ?_
    refine RetQ.mk () rfl (.tmp rfl (.tmp rfl .nil)) (t2 (vB (by first | (rw [ck_c hc0]; first | done | rfl))) (vI (by first | (rw [ck_c hc0]; first | done | rfl)))) [] (rfl) rfl (trivial)
  · refine ExL.nil ?_
    refine Ex.cond_f rfl ?_
    refine Ex.skip ?_
    refine Ex.seq ?_
    exfalso; omega
theorem c_iCheck_t (s : List Int) (hu : Nums 255 s) (As : Option Addr) (cs : Nat) (hls : s.length ≤ maxLen) (L : List VPh) (hLk : ∀ k, k < L.length → OkPh (L.getD k zPh)) (bl cL : Nat) (hlL : L.length ≤ maxLen) (lo hi : Int) (vs : List Int) (Avs : Option Addr) (cvs : Nat) (hlv : vs.length ≤ maxLen) (hc0 : codeF s L lo hi lo = 0) : Ret Try.prog 17 [.slice As s.length cs, .slice (some ⟨bl, 0, none⟩) L.length cL, .slice Avs vs.length cvs, .int .i64 lo, .int .i64 hi] (fun w => Rd w As (s.flatMap (eI .u8)) ∧ Rd w (some ⟨bl, 0, none⟩) (L.flatMap encPh) ∧ Rd w Avs (vs.flatMap (eI .i64))) (fun x : Unit => .tuple #[.bool (checkV s L vs lo hi).1, .int .i64 (checkV s L vs lo hi).2]) (fun x => []) (fun x => True) := by
  refine Ret.of e_17 Try.func17 rfl Try.ntmps17 rfl rfl (fun w hpre => ?_)
  have hs := hpre.1.base
  have hLr := hpre.2.1.base
  have hvs := hpre.2.2.base
  have hm0 : maxLen = 9223372036854775807 := rfl
  have hLo : ∀ p ∈ L, OkPh p := fun p hp => by obtain ⟨i, hi, rfl⟩ := List.getElem_of_mem hp; have := hLk i hi; simpa [List.getD, hi] using this
  have hF := film hLo hc0
  have hl0 := hF.l0
  have hlh := hF.le
  have hh1 := hF.h1
  have hS := hF.st
  have hv := hF.vs
  have hn1 := hF.len
  refine Ex.regSeq (ExL.pures 2 rfl ?_)
  refine ExL.nil ?_
  refine Ex.regSeq (ExL.pures 5 rfl ?_)
  refine ExL.op rfl (op_ret rfl rfl rfl (c_filmOf_t s (by assumption) _ _ (by omega) L (by assumption) _ _ (by omega) lo hi lo hc0) (fun w hw => ⟨Reads.get (Reads.old hs) w hw, Reads.get (Reads.old hLr) w hw⟩) rfl rfl (fun x1 hx1 => ?_))
  have hfk := fk hF hx1
  have hkl := hfk.len
  have hfv := hfk.v
  have hfl := hfk.vl
  refine ExL.pures 5 rfl ?_
  refine ExL.nil ?_
  refine Ex.seq ?_
  refine Ex.regSeq (ExL.pures 1 rfl ?_)
  refine ExL.neq rfl rfl rfl rfl rfl rfl (fun h2 => ?_) (fun h2 => ?_)
  · refine ExL.nil ?_
    refine Ex.cond_t rfl ?_
    exfalso; omega
  · refine ExL.nil ?_
    refine Ex.cond_f rfl ?_
    refine Ex.skip ?_
    refine Ex.seq ?_
    refine Ex.regSeq (ExL.pures 4 rfl ?_)
    refine ExL.neq rfl rfl rfl rfl rfl rfl (fun h3 => ?_) (fun h3 => ?_)
    · refine ExL.nil ?_
      refine Ex.cond_t rfl ?_
      refine Ex.regSeq (ExL.pures 2 rfl ?_)
      refine ExL.nil ?_
      refine Ex.ret ?_
      refine RetQ.mk () rfl (.tmp rfl (.tmp rfl .nil)) (t2 (vB (by first | (rw [ck_l hc0 (by omega)]; first | done | rfl) | (rw [ckn (k := k) hx1 hc0 (by omega) (wo_f1 (by assumption))]; first | done | rfl) | (rw [ckn (k := k) hx1 hc0 (by omega) (wo_f2 (by omega) (by assumption))]; first | done | rfl) | (rw [cky (k := k) hx1 hc0 (by omega) (by omega) hall]; first | done | rfl))) (vI (by first | (rw [ck_l hc0 (by omega)]; first | done | rfl) | (rw [ckn (k := k) hx1 hc0 (by omega) (wo_f1 (by assumption))]; first | done | rfl) | (rw [ckn (k := k) hx1 hc0 (by omega) (wo_f2 (by omega) (by assumption))]; first | done | rfl) | (rw [cky (k := k) hx1 hc0 (by omega) (by omega) hall]; first | done | rfl)))) [] (rfl) rfl (trivial)
    · refine ExL.nil ?_
      refine Ex.cond_f rfl ?_
      refine Ex.skip ?_
      refine Ex.seq ?_
      refine Ex.regSeq (ExL.pures 3 rfl ?_)
      refine ExL.nil ?_
      refine Ex.block ?_
      refine Ex.loopK (X := Nat) (fun k => [(35, .int .i64 k)]) (fun k => []) (fun k => k ≤ vs.length ∧ ∀ i, i < k → wayOk lo hi (fun k => (x1.K.getD k zX).xs) vs i = true) (fun k => vs.length - k) 0 [(2, _), (12, _), (33, _), (34, _)] [_, _, _] 3 [0, 1, 2] ⟨rfl, trivial⟩ ⟨rfl, rfl, rfl, rfl, trivial⟩ (rfl) rfl ⟨Nat.zero_le _, fun i hi => by omega⟩ (fun k hI => ?_)
      have hI : k ≤ vs.length ∧ ∀ i, i < k → wayOk lo hi (fun k => (x1.K.getD k zX).xs) vs i = true := hI
      obtain ⟨hk, hall⟩ := hI
      refine Ex.regSeq (ExL.pures 0 rfl ?_)
      refine ExL.lss rfl rfl rfl rfl rfl rfl (fun h4 => ?_) (fun h4 => ?_)
      · refine ExL.nil ?_
        refine Ex.seq ?_
        refine Ex.cond_t rfl ?_
        refine Ex.skip ?_
        refine Ex.seq ?_
        refine Ex.block ?_
        have hkv : k < vs.length := by omega
        have hvl := hfl k (by omega)
        have hpv : 0 < k → 0 ≤ vs.getD (k - 1) 0 ∧ vs.getD (k - 1) 0 < 1000000000000 := fun h => has_bd hfk (by omega) (wo_has (hall (k - 1) (by omega)))
        refine Ex.regSeq (ExL.pures 1 rfl ?_)
        refine ExL.free (fr_indexAddrF (Reads.old hvs) (eI_len .i64) rfl rfl rfl rfl rfl rfl (by omega)) rfl rfl rfl ?_
        refine ExL.free (fr_load rfl rfl rfl rfl (by first | exact cellN (Reads.old hvs) (eI_len .i64) 0 0 rfl (by omega) rfl | exact cellF (Reads.old hvs) (eI_len .i64) 0 0 rfl (by omega) rfl)) rfl rfl rfl ?_
        refine ExL.pures 2 rfl ?_
        refine ExL.nil ?_
        refine Ex.regSeq (ExL.pures 3 rfl ?_)
        refine ExL.free (fr_load rfl rfl rfl rfl (CellO.blk (i := 0) rfl rfl)) rfl rfl rfl ?_
        refine ExL.pures 1 rfl ?_
        refine ExL.free (fr_indexAddrR (sz := 1) 1 rfl rfl rfl rfl rfl rfl (by omega)) rfl rfl rfl ?_
        refine ExL.free (fr_load rfl rfl rfl rfl (by first | exact cellN (Reads.row (i := 1) rfl) encX_len zX 0 rfl (by omega) rfl | exact cellF (Reads.row (i := 1) rfl) encX_len zX 0 rfl (by omega) rfl)) rfl rfl rfl ?_
        refine ExL.pures 1 rfl ?_
        refine ExL.op rfl (op_ret rfl rfl rfl (c_nContains (x1.K.getD k zX).xs _ _ (by omega) (vs.getD k 0)) (Reads.get (readsX (i := 2) rfl (k := k) (by omega))) rfl rfl (fun x5 hx5 => ?_))
        refine ExL.pures 2 rfl ?_
        refine ExL.bool (d := 50) rfl (fun hb6 => ?_) (fun hb6 => ?_)
        · replace hb6 := nb_t hb6
          refine ExL.pures 14 rfl ?_
          refine ExL.nil ?_
          refine Ex.cond_t rfl ?_
          refine Ex.regSeq (ExL.pures 2 rfl ?_)
          refine ExL.nil ?_
          refine Ex.ret ?_
          refine RetQ.mk () rfl (.tmp rfl (.tmp rfl .nil)) (t2 (vB (by first | (rw [ck_l hc0 (by omega)]; first | done | rfl) | (rw [ckn (k := k) hx1 hc0 (by omega) (wo_f1 (by assumption))]; first | done | rfl) | (rw [ckn (k := k) hx1 hc0 (by omega) (wo_f2 (by omega) (by assumption))]; first | done | rfl) | (rw [cky (k := k) hx1 hc0 (by omega) (by omega) hall]; first | done | rfl))) (vI (by first | (rw [ck_l hc0 (by omega)]; first | done | rfl) | (rw [ckn (k := k) hx1 hc0 (by omega) (wo_f1 (by assumption))]; first | done | rfl) | (rw [ckn (k := k) hx1 hc0 (by omega) (wo_f2 (by omega) (by assumption))]; first | done | rfl) | (rw [cky (k := k) hx1 hc0 (by omega) (by omega) hall]; first | done | rfl)))) [] (rfl) rfl (trivial)
        · replace hb6 := nb_f hb6
          refine ExL.pures 1 rfl ?_
          refine ExL.gtr rfl rfl rfl rfl rfl rfl (fun h7 => ?_) (fun h7 => ?_)
          · refine ExL.pures 4 rfl ?_
            refine ExL.free (by first | exact fr_sub64 rfl rfl rfl (by omega) | exact fr_sub rfl rfl rfl) rfl rfl rfl ?_
            refine ExL.free (fr_indexAddrF (Reads.old hvs) (eI_len .i64) rfl rfl rfl rfl rfl rfl (by omega)) rfl rfl rfl ?_
            refine ExL.free (fr_load rfl rfl rfl rfl (cellJ (i := (↑k - 1)) ((k - 1)) (Reads.old hvs) (eI_len .i64) 0 0 rfl (by omega) (by omega) rfl)) rfl rfl rfl ?_
            refine ExL.pures 1 rfl ?_
            refine ExL.op rfl (op_ret rfl rfl rfl (c_goes _ lo hi (by omega) _ _ _ (by have := hpv (by omega); omega) (by have := has_bd hfk (show k < L.length by omega) (by assumption); omega)) (Reads.get (Reads.blk (i := 0) rfl)) rfl rfl (fun x8 hx8 => ?_))
            refine ExL.pures 3 rfl ?_
            refine ExL.nil ?_
            refine Ex.cond rfl (fun hb9 => ?_) (fun hb9 => ?_)
            · replace hb9 := nb_t hb9
              refine Ex.regSeq (ExL.pures 2 rfl ?_)
              refine ExL.nil ?_
              refine Ex.ret ?_
              refine RetQ.mk () rfl (.tmp rfl (.tmp rfl .nil)) (t2 (vB (by first | (rw [ck_l hc0 (by omega)]; first | done | rfl) | (rw [ckn (k := k) hx1 hc0 (by omega) (wo_f1 (by assumption))]; first | done | rfl) | (rw [ckn (k := k) hx1 hc0 (by omega) (wo_f2 (by omega) (by assumption))]; first | done | rfl) | (rw [cky (k := k) hx1 hc0 (by omega) (by omega) hall]; first | done | rfl))) (vI (by first | (rw [ck_l hc0 (by omega)]; first | done | rfl) | (rw [ckn (k := k) hx1 hc0 (by omega) (wo_f1 (by assumption))]; first | done | rfl) | (rw [ckn (k := k) hx1 hc0 (by omega) (wo_f2 (by omega) (by assumption))]; first | done | rfl) | (rw [cky (k := k) hx1 hc0 (by omega) (by omega) hall]; first | done | rfl)))) [] (rfl) rfl (trivial)
            · replace hb9 := nb_f hb9
              refine Ex.skip ?_
              refine Ex.region (ExL.pures 0 rfl ?_)
              refine ExL.free (by first | exact fr_add64 rfl rfl rfl (by omega) | exact fr_add rfl rfl rfl) rfl rfl rfl ?_
              refine ExL.pures 1 rfl ?_
              refine ExL.nil ?_
              refine Hand.mk (k + 1) 3 [0, 1, 2] ⟨rfl, trivial⟩ ⟨rfl, rfl, rfl, rfl, trivial⟩ (rfl) rfl (⟨by omega, all_snoc hall (wo_t (by assumption) (by first | exact .inl (by omega) | exact .inr (by assumption)))⟩) (by omega)
          · refine ExL.pures 12 rfl ?_
            refine ExL.nil ?_
            refine Ex.cond_f rfl ?_
            refine Ex.skip ?_
            refine Ex.region (ExL.pures 0 rfl ?_)
            refine ExL.free (by first | exact fr_add64 rfl rfl rfl (by omega) | exact fr_add rfl rfl rfl) rfl rfl rfl ?_
            refine ExL.pures 1 rfl ?_
            refine ExL.nil ?_
            refine Hand.mk (k + 1) 3 [0, 1, 2] ⟨rfl, trivial⟩ ⟨rfl, rfl, rfl, rfl, trivial⟩ (rfl) rfl (⟨by omega, all_snoc hall (wo_t (by assumption) (by first | exact .inl (by omega) | exact .inr (by assumption)))⟩) (by omega)
      · refine ExL.nil ?_
        refine Ex.seq ?_
        refine Ex.cond_f rfl ?_
        refine Ex.exit ?_
        refine Ex.regSeq (ExL.pures 2 rfl ?_)
        refine ExL.nil ?_
        refine Ex.ret ?_
        refine RetQ.mk () rfl (.tmp rfl (.tmp rfl .nil)) (t2 (vB (by first | (rw [ck_l hc0 (by omega)]; first | done | rfl) | (rw [ckn (k := k) hx1 hc0 (by omega) (wo_f1 (by assumption))]; first | done | rfl) | (rw [ckn (k := k) hx1 hc0 (by omega) (wo_f2 (by omega) (by assumption))]; first | done | rfl) | (rw [cky (k := k) hx1 hc0 (by omega) (by omega) hall]; first | done | rfl))) (vI (by first | (rw [ck_l hc0 (by omega)]; first | done | rfl) | (rw [ckn (k := k) hx1 hc0 (by omega) (wo_f1 (by assumption))]; first | done | rfl) | (rw [ckn (k := k) hx1 hc0 (by omega) (wo_f2 (by omega) (by assumption))]; first | done | rfl) | (rw [cky (k := k) hx1 hc0 (by omega) (by omega) hall]; first | done | rfl)))) [] (rfl) rfl (trivial)
theorem c_iCheck (s : List Int) (hu : Nums 255 s) (As : Option Addr) (cs : Nat) (hls : s.length ≤ maxLen) (L : List VPh) (hLk : ∀ k, k < L.length → OkPh (L.getD k zPh)) (bl cL : Nat) (hlL : L.length ≤ maxLen) (lo hi : Int) (vs : List Int) (Avs : Option Addr) (cvs : Nat) (hlv : vs.length ≤ maxLen) : Ret Try.prog 17 [.slice As s.length cs, .slice (some ⟨bl, 0, none⟩) L.length cL, .slice Avs vs.length cvs, .int .i64 lo, .int .i64 hi] (fun w => Rd w As (s.flatMap (eI .u8)) ∧ Rd w (some ⟨bl, 0, none⟩) (L.flatMap encPh) ∧ Rd w Avs (vs.flatMap (eI .i64))) (fun x : Unit => .tuple #[.bool (checkV s L vs lo hi).1, .int .i64 (checkV s L vs lo hi).2]) (fun x => []) (fun x => True) := by
  by_cases h : codeF s L lo hi lo = 0
  · exact c_iCheck_t s hu As cs hls L hLk bl cL hlL lo hi vs Avs cvs hlv h
  · exact c_iCheck_f s hu As cs hls L hLk bl cL hlL lo hi vs Avs cvs hlv h
theorem e_18 : Enters Try.prog 18 := Enters.of Try.func18 rfl
theorem c_sCheck_f (s : List Int) (hu : Nums 255 s) (As : Option Addr) (cs : Nat) (hls : s.length ≤ maxLen) (L : List VPh) (hLk : ∀ k, k < L.length → OkPh (L.getD k zPh)) (bl cL : Nat) (hlL : L.length ≤ maxLen) (lo hi : Int) (vs : List Int) (Avs : Option Addr) (cvs : Nat) (hlv : vs.length ≤ maxLen) (hc0 : codeF s L lo hi lo ≠ 0) : Ret Try.prog 18 [.slice As s.length cs, .slice (some ⟨bl, 0, none⟩) L.length cL, .slice Avs vs.length cvs, .int .i64 lo, .int .i64 hi] (fun w => Rd w As (s.flatMap (eI .u8)) ∧ Rd w (some ⟨bl, 0, none⟩) (L.flatMap encPh) ∧ Rd w Avs (vs.flatMap (eI .i64))) (fun x : Unit => .tuple #[.bool (checkV s L vs lo hi).1, .int .i64 (checkV s L vs lo hi).2]) (fun x => []) (fun x => True) := by
  refine Ret.of e_18 Try.func18 rfl Try.ntmps18 rfl rfl (fun w hpre => ?_)
  have hs := hpre.1.base
  have hLr := hpre.2.1.base
  have hvs := hpre.2.2.base
  have hm0 : maxLen = 9223372036854775807 := rfl
  refine Ex.regSeq (ExL.pures 2 rfl ?_)
  refine ExL.nil ?_
  refine Ex.regSeq (ExL.pures 4 rfl ?_)
  refine ExL.op rfl (op_ret rfl rfl rfl (c_l05Begin_f s (by assumption) _ _ (by omega) L (by assumption) _ _ (by omega) lo hi hc0) (fun w hw => ⟨Reads.get (Reads.old hs) w hw, Reads.get (Reads.old hLr) w hw⟩) rfl rfl (fun x1 hx1 => ?_))
  refine ExL.pures 5 rfl ?_
  refine ExL.nil ?_
  refine Ex.seq ?_
  refine Ex.regSeq (ExL.pures 1 rfl ?_)
  refine ExL.neq rfl rfl rfl rfl rfl rfl (fun h2 => ?_) (fun h2 => ?_)
  · refine ExL.nil ?_
    refine Ex.cond_t rfl ?_
    refine Ex.regSeq (ExL.pures 3 rfl ?_)
    refine ExL.nil ?_
    refine Ex.ret ?_
    refine RetQ.mk () rfl (.tmp rfl (.tmp rfl .nil)) (t2 (vB (by first | (rw [ck_c hc0]; first | done | rfl))) (vI (by first | (rw [ck_c hc0]; first | done | rfl)))) [] (rfl) rfl (trivial)
  · refine ExL.nil ?_
    refine Ex.cond_f rfl ?_
    refine Ex.skip ?_
    refine Ex.seq ?_
    exfalso; omega
theorem c_sCheck_t (s : List Int) (hu : Nums 255 s) (As : Option Addr) (cs : Nat) (hls : s.length ≤ maxLen) (L : List VPh) (hLk : ∀ k, k < L.length → OkPh (L.getD k zPh)) (bl cL : Nat) (hlL : L.length ≤ maxLen) (lo hi : Int) (vs : List Int) (Avs : Option Addr) (cvs : Nat) (hlv : vs.length ≤ maxLen) (hc0 : codeF s L lo hi lo = 0) : Ret Try.prog 18 [.slice As s.length cs, .slice (some ⟨bl, 0, none⟩) L.length cL, .slice Avs vs.length cvs, .int .i64 lo, .int .i64 hi] (fun w => Rd w As (s.flatMap (eI .u8)) ∧ Rd w (some ⟨bl, 0, none⟩) (L.flatMap encPh) ∧ Rd w Avs (vs.flatMap (eI .i64))) (fun x : Unit => .tuple #[.bool (checkV s L vs lo hi).1, .int .i64 (checkV s L vs lo hi).2]) (fun x => []) (fun x => True) := by
  refine Ret.of e_18 Try.func18 rfl Try.ntmps18 rfl rfl (fun w hpre => ?_)
  have hs := hpre.1.base
  have hLr := hpre.2.1.base
  have hvs := hpre.2.2.base
  have hm0 : maxLen = 9223372036854775807 := rfl
  have hLo : ∀ p ∈ L, OkPh p := fun p hp => by obtain ⟨i, hi, rfl⟩ := List.getElem_of_mem hp; have := hLk i hi; simpa [List.getD, hi] using this
  have hF := film hLo hc0
  have hl0 := hF.l0
  have hlh := hF.le
  have hh1 := hF.h1
  have hS := hF.st
  have hv := hF.vs
  have hn1 := hF.len
  refine Ex.regSeq (ExL.pures 2 rfl ?_)
  refine ExL.nil ?_
  refine Ex.regSeq (ExL.pures 4 rfl ?_)
  refine ExL.op rfl (op_ret rfl rfl rfl (c_l05Begin_t s (by assumption) _ _ (by omega) L (by assumption) _ _ (by omega) lo hi hc0) (fun w hw => ⟨Reads.get (Reads.old hs) w hw, Reads.get (Reads.old hLr) w hw⟩) rfl rfl (fun x1 hx1 => ?_))
  have hfk := fk hF hx1
  have hkl := hfk.len
  have hfv := hfk.v
  have hfl := hfk.vl
  refine ExL.pures 5 rfl ?_
  refine ExL.nil ?_
  refine Ex.seq ?_
  refine Ex.regSeq (ExL.pures 1 rfl ?_)
  refine ExL.neq rfl rfl rfl rfl rfl rfl (fun h2 => ?_) (fun h2 => ?_)
  · refine ExL.nil ?_
    refine Ex.cond_t rfl ?_
    exfalso; omega
  · refine ExL.nil ?_
    refine Ex.cond_f rfl ?_
    refine Ex.skip ?_
    refine Ex.seq ?_
    refine Ex.regSeq (ExL.pures 4 rfl ?_)
    refine ExL.neq rfl rfl rfl rfl rfl rfl (fun h3 => ?_) (fun h3 => ?_)
    · refine ExL.nil ?_
      refine Ex.cond_t rfl ?_
      refine Ex.regSeq (ExL.pures 2 rfl ?_)
      refine ExL.nil ?_
      refine Ex.ret ?_
      refine RetQ.mk () rfl (.tmp rfl (.tmp rfl .nil)) (t2 (vB (by first | (rw [ck_l hc0 (by omega)]; first | done | rfl) | (rw [ckn (k := k) hx1 hc0 (by omega) (wo_f1 (by assumption))]; first | done | rfl) | (rw [ckn (k := k) hx1 hc0 (by omega) (wo_f2 (by omega) (by assumption))]; first | done | rfl) | (rw [cky (k := k) hx1 hc0 (by omega) (by omega) hall]; first | done | rfl))) (vI (by first | (rw [ck_l hc0 (by omega)]; first | done | rfl) | (rw [ckn (k := k) hx1 hc0 (by omega) (wo_f1 (by assumption))]; first | done | rfl) | (rw [ckn (k := k) hx1 hc0 (by omega) (wo_f2 (by omega) (by assumption))]; first | done | rfl) | (rw [cky (k := k) hx1 hc0 (by omega) (by omega) hall]; first | done | rfl)))) [] (rfl) rfl (trivial)
    · refine ExL.nil ?_
      refine Ex.cond_f rfl ?_
      refine Ex.skip ?_
      refine Ex.seq ?_
      refine Ex.regSeq (ExL.pures 1 rfl ?_)
      refine ExL.nil ?_
      refine Ex.block ?_
      refine Ex.loopK (X := Nat) (fun k => [(14, .int .i64 k)]) (fun k => []) (fun k => k ≤ vs.length ∧ ∀ i, i < k → wayOk lo hi (fun k => (x1.K.getD k zX).xs) vs i = true) (fun k => vs.length - k) 0 [(2, _), (12, _)] [_, _, _] 3 [0, 1, 2] ⟨rfl, trivial⟩ ⟨rfl, rfl, trivial⟩ (rfl) rfl ⟨Nat.zero_le _, fun i hi => by omega⟩ (fun k hI => ?_)
      have hI : k ≤ vs.length ∧ ∀ i, i < k → wayOk lo hi (fun k => (x1.K.getD k zX).xs) vs i = true := hI
      obtain ⟨hk, hall⟩ := hI
      refine Ex.seq ?_
      refine Ex.regSeq (ExL.pures 3 rfl ?_)
      refine ExL.lss rfl rfl rfl rfl rfl rfl (fun h4 => ?_) (fun h4 => ?_)
      · refine ExL.nil ?_
        refine Ex.cond_t rfl ?_
        refine Ex.skip ?_
        refine Ex.seq ?_
        refine Ex.block ?_
        have hkv : k < vs.length := by omega
        have hvl := hfl k (by omega)
        have hpv : 0 < k → 0 ≤ vs.getD (k - 1) 0 ∧ vs.getD (k - 1) 0 < 1000000000000 := fun h => has_bd hfk (by omega) (wo_has (hall (k - 1) (by omega)))
        refine Ex.drawSeqM rfl ?_
        refine ExD.take (i := 0) rfl (by kernel_rfl) (pureVal_ok rfl) ((List.Sublist.refl _)) rfl rfl rfl ?_
        refine ExD.take (i := 1) rfl (by kernel_rfl) (pureVal_ok rfl) ((List.Sublist.refl _)) rfl rfl rfl ?_
        refine ExD.take (i := 2) rfl (by kernel_rfl) (pureVal_ok rfl) ((List.Sublist.refl _)) rfl rfl rfl ?_
        refine ExD.take (i := 3) rfl (by kernel_rfl) (fr_load rfl rfl rfl rfl (CellO.blk (i := 0) rfl rfl)) ((List.Sublist.refl _)) rfl rfl rfl ?_
        refine ExD.take (i := 4) rfl (by kernel_rfl) (pureVal_ok rfl) ((List.Sublist.refl _)) rfl rfl rfl ?_
        refine ExD.take (i := 5) rfl (by kernel_rfl) (fr_indexAddrR (sz := 1) 1 rfl rfl rfl rfl rfl rfl (by omega)) ((List.Sublist.refl _)) rfl rfl rfl ?_
        refine ExD.take (i := 6) rfl (by kernel_rfl) (fr_load rfl rfl rfl rfl (by first | exact cellN (Reads.row (i := 1) rfl) encX_len zX 0 rfl (by omega) rfl | exact cellF (Reads.row (i := 1) rfl) encX_len zX 0 rfl (by omega) rfl)) ((List.Sublist.refl _)) rfl rfl rfl ?_
        refine ExD.take (i := 7) rfl (by kernel_rfl) (pureVal_ok rfl) ((List.Sublist.refl _)) rfl rfl rfl ?_
        refine ExD.take (i := 8) rfl (by kernel_rfl) (pureVal_ok rfl) ((List.Sublist.refl _)) rfl rfl rfl ?_
        refine ExD.take (i := 9) rfl (by kernel_rfl) (fr_indexAddrF (Reads.old hvs) (eI_len .i64) rfl rfl rfl rfl rfl rfl (by omega)) ((List.Sublist.refl _)) rfl rfl rfl ?_
        refine ExD.take (i := 10) rfl (by kernel_rfl) (fr_load rfl rfl rfl rfl (by first | exact cellN (Reads.old hvs) (eI_len .i64) 0 0 rfl (by omega) rfl | exact cellF (Reads.old hvs) (eI_len .i64) 0 0 rfl (by omega) rfl)) ((List.Sublist.refl _)) rfl rfl rfl ?_
        refine ExD.op (i := 11) rfl (by kernel_rfl) rfl (op_ret rfl rfl rfl (c_l00HasP (x1.K.getD k zX).xs _ _ (by omega) (vs.getD k 0)) (Reads.get (readsX (i := 2) rfl (k := k) (by omega))) rfl rfl (fun x5 hx5 => ⟨(List.Sublist.refl _), ?_⟩))
        refine ExD.take (i := 12) rfl (by kernel_rfl) (pureVal_ok rfl) ((List.Sublist.refl _)) rfl rfl rfl ?_
        refine ExD.take (i := 13) rfl (by kernel_rfl) (pureVal_ok rfl) ((List.Sublist.refl _)) rfl rfl rfl ?_
        refine ExD.bool (d := 50) rfl (fun hb6 => ?_) (fun hb6 => ?_)
        · replace hb6 := nb_t hb6
          refine ExD.pass (i := 14) rfl (by kernel_rfl) ((List.Sublist.refl _)) rfl rfl rfl ?_
          refine ExD.pass (i := 15) rfl (by kernel_rfl) ((List.Sublist.refl _)) rfl rfl rfl ?_
          refine ExD.pass (i := 16) rfl (by kernel_rfl) ((List.Sublist.refl _)) rfl rfl rfl ?_
          refine ExD.pass (i := 17) rfl (by kernel_rfl) ((List.Sublist.refl _)) rfl rfl rfl ?_
          refine ExD.pass (i := 18) rfl (by kernel_rfl) ((List.Sublist.refl _)) rfl rfl rfl ?_
          refine ExD.pass (i := 19) rfl (by kernel_rfl) ((List.Sublist.refl _)) rfl rfl rfl ?_
          refine ExD.pass (i := 20) rfl (by kernel_rfl) ((List.Sublist.refl _)) rfl rfl rfl ?_
          refine ExD.pass (i := 21) rfl (by kernel_rfl) ((List.Sublist.refl _)) rfl rfl rfl ?_
          refine ExD.pass (i := 22) rfl (by kernel_rfl) ((List.Sublist.refl _)) rfl rfl rfl ?_
          refine ExD.pass (i := 23) rfl (by kernel_rfl) ((List.Sublist.refl _)) rfl rfl rfl ?_
          refine ExD.pass (i := 24) rfl (by kernel_rfl) ((List.Sublist.refl _)) rfl rfl rfl ?_
          refine ExD.pass (i := 25) rfl (by kernel_rfl) ((List.Sublist.refl _)) rfl rfl rfl ?_
          refine ExD.pass (i := 26) rfl (by kernel_rfl) ((List.Sublist.refl _)) rfl rfl rfl ?_
          refine ExD.pass (i := 27) rfl (by kernel_rfl) ((List.Sublist.refl _)) rfl rfl rfl ?_
          refine ExD.pass (i := 28) rfl (by kernel_rfl) ((List.Sublist.refl _)) rfl rfl rfl ?_
          refine ExD.pass (i := 29) rfl (by kernel_rfl) ((List.Sublist.refl _)) rfl rfl rfl ?_
          refine ExD.take (i := 30) rfl (by kernel_rfl) (pureVal_ok rfl) ((List.Sublist.refl _)) rfl rfl rfl ?_
          refine ExD.done (by kernel_rfl) ?_
          refine Ex.cond_t rfl ?_
          refine Ex.regSeq (ExL.pures 2 rfl ?_)
          refine ExL.nil ?_
          refine Ex.ret ?_
          refine RetQ.mk () rfl (.tmp rfl (.tmp rfl .nil)) (t2 (vB (by first | (rw [ck_l hc0 (by omega)]; first | done | rfl) | (rw [ckn (k := k) hx1 hc0 (by omega) (wo_f1 (by assumption))]; first | done | rfl) | (rw [ckn (k := k) hx1 hc0 (by omega) (wo_f2 (by omega) (by assumption))]; first | done | rfl) | (rw [cky (k := k) hx1 hc0 (by omega) (by omega) hall]; first | done | rfl))) (vI (by first | (rw [ck_l hc0 (by omega)]; first | done | rfl) | (rw [ckn (k := k) hx1 hc0 (by omega) (wo_f1 (by assumption))]; first | done | rfl) | (rw [ckn (k := k) hx1 hc0 (by omega) (wo_f2 (by omega) (by assumption))]; first | done | rfl) | (rw [cky (k := k) hx1 hc0 (by omega) (by omega) hall]; first | done | rfl)))) [] (rfl) rfl (trivial)
        · replace hb6 := nb_f hb6
          refine ExD.take (i := 14) rfl (by kernel_rfl) (pureVal_ok rfl) ((List.Sublist.refl _)) rfl rfl rfl ?_
          refine ExD.cmp_gtr (i := 15) rfl (by kernel_rfl) rfl rfl rfl ((List.Sublist.refl _)) rfl rfl rfl (fun h7 => ?_) (fun h7 => ?_)
          · refine ExD.take (i := 16) rfl (by kernel_rfl) (pureVal_ok rfl) ((List.Sublist.refl _)) rfl rfl rfl ?_
            refine ExD.take (i := 17) rfl (by kernel_rfl) (pureVal_ok rfl) ((List.Sublist.refl _)) rfl rfl rfl ?_
            refine ExD.take (i := 18) rfl (by kernel_rfl) (pureVal_ok rfl) ((List.Sublist.refl _)) rfl rfl rfl ?_
            refine ExD.take (i := 19) rfl (by kernel_rfl) (pureVal_ok rfl) ((List.Sublist.refl _)) rfl rfl rfl ?_
            refine ExD.take (i := 20) rfl (by kernel_rfl) (by first | exact fr_sub64 rfl rfl rfl (by omega) | exact fr_sub rfl rfl rfl) ((List.Sublist.refl _)) rfl rfl rfl ?_
            refine ExD.take (i := 21) rfl (by kernel_rfl) (fr_indexAddrF (Reads.old hvs) (eI_len .i64) rfl rfl rfl rfl rfl rfl (by omega)) ((List.Sublist.refl _)) rfl rfl rfl ?_
            refine ExD.take (i := 22) rfl (by kernel_rfl) (fr_load rfl rfl rfl rfl (cellJ (i := (↑k - 1)) ((k - 1)) (Reads.old hvs) (eI_len .i64) 0 0 rfl (by omega) (by omega) rfl)) ((List.Sublist.refl _)) rfl rfl rfl ?_
            refine ExD.take (i := 23) rfl (by kernel_rfl) (pureVal_ok rfl) ((List.Sublist.refl _)) rfl rfl rfl ?_
            refine ExD.take (i := 24) rfl (by kernel_rfl) (pureVal_ok rfl) ((List.Sublist.refl _)) rfl rfl rfl ?_
            refine ExD.take (i := 25) rfl (by kernel_rfl) (fr_indexAddrF (Reads.old hvs) (eI_len .i64) rfl rfl rfl rfl rfl rfl (by omega)) ((List.Sublist.refl _)) rfl rfl rfl ?_
            refine ExD.take (i := 26) rfl (by kernel_rfl) (fr_load rfl rfl rfl rfl (by first | exact cellN (Reads.old hvs) (eI_len .i64) 0 0 rfl (by omega) rfl | exact cellF (Reads.old hvs) (eI_len .i64) 0 0 rfl (by omega) rfl)) ((List.Sublist.refl _)) rfl rfl rfl ?_
            refine ExD.op (i := 27) rfl (by kernel_rfl) rfl (op_ret rfl rfl rfl (c_follows _ _ lo hi (by omega) _ _ _ (by have := hpv (by omega); omega) (by have := has_bd hfk (show k < L.length by omega) (by assumption); omega)) (Reads.get (Reads.blk (i := 0) rfl)) rfl rfl (fun x8 hx8 => ⟨(List.Sublist.refl _), ?_⟩))
            refine ExD.take (i := 28) rfl (by kernel_rfl) (pureVal_ok rfl) ((List.Sublist.refl _)) rfl rfl rfl ?_
            refine ExD.take (i := 29) rfl (by kernel_rfl) (pureVal_ok rfl) ((List.Sublist.refl _)) rfl rfl rfl ?_
            refine ExD.take (i := 30) rfl (by kernel_rfl) (pureVal_ok rfl) ((List.Sublist.refl _)) rfl rfl rfl ?_
            refine ExD.done (by kernel_rfl) ?_
            refine Ex.cond rfl (fun hb9 => ?_) (fun hb9 => ?_)
            · replace hb9 := nb_t hb9
              refine Ex.regSeq (ExL.pures 2 rfl ?_)
              refine ExL.nil ?_
              refine Ex.ret ?_
              refine RetQ.mk () rfl (.tmp rfl (.tmp rfl .nil)) (t2 (vB (by first | (rw [ck_l hc0 (by omega)]; first | done | rfl) | (rw [ckn (k := k) hx1 hc0 (by omega) (wo_f1 (by assumption))]; first | done | rfl) | (rw [ckn (k := k) hx1 hc0 (by omega) (wo_f2 (by omega) (by assumption))]; first | done | rfl) | (rw [cky (k := k) hx1 hc0 (by omega) (by omega) hall]; first | done | rfl))) (vI (by first | (rw [ck_l hc0 (by omega)]; first | done | rfl) | (rw [ckn (k := k) hx1 hc0 (by omega) (wo_f1 (by assumption))]; first | done | rfl) | (rw [ckn (k := k) hx1 hc0 (by omega) (wo_f2 (by omega) (by assumption))]; first | done | rfl) | (rw [cky (k := k) hx1 hc0 (by omega) (by omega) hall]; first | done | rfl)))) [] (rfl) rfl (trivial)
            · replace hb9 := nb_f hb9
              refine Ex.skip ?_
              refine Ex.region (ExL.pures 1 rfl ?_)
              refine ExL.free (by first | exact fr_add64 rfl rfl rfl (by omega) | exact fr_add rfl rfl rfl) rfl rfl rfl ?_
              refine ExL.pures 1 rfl ?_
              refine ExL.nil ?_
              refine Hand.mk (k + 1) 3 [0, 1, 2] ⟨rfl, trivial⟩ ⟨rfl, rfl, trivial⟩ (rfl) rfl (⟨by omega, all_snoc hall (wo_t (by assumption) (by first | exact .inl (by omega) | exact .inr (by assumption)))⟩) (by omega)
          · refine ExD.take (i := 16) rfl (by kernel_rfl) (pureVal_ok rfl) ((List.Sublist.refl _)) rfl rfl rfl ?_
            refine ExD.pass (i := 17) rfl (by kernel_rfl) ((List.Sublist.refl _)) rfl rfl rfl ?_
            refine ExD.pass (i := 18) rfl (by kernel_rfl) ((List.Sublist.refl _)) rfl rfl rfl ?_
            refine ExD.pass (i := 19) rfl (by kernel_rfl) ((List.Sublist.refl _)) rfl rfl rfl ?_
            refine ExD.pass (i := 20) rfl (by kernel_rfl) ((List.Sublist.refl _)) rfl rfl rfl ?_
            refine ExD.pass (i := 21) rfl (by kernel_rfl) ((List.Sublist.refl _)) rfl rfl rfl ?_
            refine ExD.pass (i := 22) rfl (by kernel_rfl) ((List.Sublist.refl _)) rfl rfl rfl ?_
            refine ExD.pass (i := 23) rfl (by kernel_rfl) ((List.Sublist.refl _)) rfl rfl rfl ?_
            refine ExD.pass (i := 24) rfl (by kernel_rfl) ((List.Sublist.refl _)) rfl rfl rfl ?_
            refine ExD.pass (i := 25) rfl (by kernel_rfl) ((List.Sublist.refl _)) rfl rfl rfl ?_
            refine ExD.pass (i := 26) rfl (by kernel_rfl) ((List.Sublist.refl _)) rfl rfl rfl ?_
            refine ExD.pass (i := 27) rfl (by kernel_rfl) ((List.Sublist.refl _)) rfl rfl rfl ?_
            refine ExD.pass (i := 28) rfl (by kernel_rfl) ((List.Sublist.refl _)) rfl rfl rfl ?_
            refine ExD.take (i := 29) rfl (by kernel_rfl) (pureVal_ok rfl) ((List.Sublist.refl _)) rfl rfl rfl ?_
            refine ExD.take (i := 30) rfl (by kernel_rfl) (pureVal_ok rfl) ((List.Sublist.refl _)) rfl rfl rfl ?_
            refine ExD.done (by kernel_rfl) ?_
            refine Ex.cond_f rfl ?_
            refine Ex.skip ?_
            refine Ex.region (ExL.pures 1 rfl ?_)
            refine ExL.free (by first | exact fr_add64 rfl rfl rfl (by omega) | exact fr_add rfl rfl rfl) rfl rfl rfl ?_
            refine ExL.pures 1 rfl ?_
            refine ExL.nil ?_
            refine Hand.mk (k + 1) 3 [0, 1, 2] ⟨rfl, trivial⟩ ⟨rfl, rfl, trivial⟩ (rfl) rfl (⟨by omega, all_snoc hall (wo_t (by assumption) (by first | exact .inl (by omega) | exact .inr (by assumption)))⟩) (by omega)
      · refine ExL.nil ?_
        refine Ex.cond_f rfl ?_
        refine Ex.exit ?_
        refine Ex.regSeq (ExL.pures 2 rfl ?_)
        refine ExL.nil ?_
        refine Ex.ret ?_
        refine RetQ.mk () rfl (.tmp rfl (.tmp rfl .nil)) (t2 (vB (by first | (rw [ck_l hc0 (by omega)]; first | done | rfl) | (rw [ckn (k := k) hx1 hc0 (by omega) (wo_f1 (by assumption))]; first | done | rfl) | (rw [ckn (k := k) hx1 hc0 (by omega) (wo_f2 (by omega) (by assumption))]; first | done | rfl) | (rw [cky (k := k) hx1 hc0 (by omega) (by omega) hall]; first | done | rfl))) (vI (by first | (rw [ck_l hc0 (by omega)]; first | done | rfl) | (rw [ckn (k := k) hx1 hc0 (by omega) (wo_f1 (by assumption))]; first | done | rfl) | (rw [ckn (k := k) hx1 hc0 (by omega) (wo_f2 (by omega) (by assumption))]; first | done | rfl) | (rw [cky (k := k) hx1 hc0 (by omega) (by omega) hall]; first | done | rfl)))) [] (rfl) rfl (trivial)
theorem c_sCheck (s : List Int) (hu : Nums 255 s) (As : Option Addr) (cs : Nat) (hls : s.length ≤ maxLen) (L : List VPh) (hLk : ∀ k, k < L.length → OkPh (L.getD k zPh)) (bl cL : Nat) (hlL : L.length ≤ maxLen) (lo hi : Int) (vs : List Int) (Avs : Option Addr) (cvs : Nat) (hlv : vs.length ≤ maxLen) : Ret Try.prog 18 [.slice As s.length cs, .slice (some ⟨bl, 0, none⟩) L.length cL, .slice Avs vs.length cvs, .int .i64 lo, .int .i64 hi] (fun w => Rd w As (s.flatMap (eI .u8)) ∧ Rd w (some ⟨bl, 0, none⟩) (L.flatMap encPh) ∧ Rd w Avs (vs.flatMap (eI .i64))) (fun x : Unit => .tuple #[.bool (checkV s L vs lo hi).1, .int .i64 (checkV s L vs lo hi).2]) (fun x => []) (fun x => True) := by
  by_cases h : codeF s L lo hi lo = 0
  · exact c_sCheck_t s hu As cs hls L hLk bl cL hlL lo hi vs Avs cvs hlv h
  · exact c_sCheck_f s hu As cs hls L hLk bl cL hlL lo hi vs Avs cvs hlv h
end Go.Proofs.Ytdfgbocmjgjclaa

/- What these functions of the program hand back, each proved by walking its operations. -/
set_option linter.unusedVariables false
set_option linter.unusedSimpArgs false
set_option maxRecDepth 4000
namespace Go.Proofs.Ytdfgbocmjgjclaa
open Go Go.Sx Go.RowKit Go.W Go.Proofs
attribute [local irreducible] Ex ExL ExD Op1 Free RetQ MutQ Reads CellO SegO LoadsAs
theorem e_29 : Enters Try.prog 29 := Enters.of Try.func29 rfl
theorem c_ahead (K : List (VX Int)) (n : Nat) (hfk : FK K n) (lo hi : Int) (hlh : 0 ≤ lo ∧ hi ≤ 1000000000000) (AK : Option Addr) (cK b : Nat) : Ret Try.prog 29 [.pointer (some ⟨b, 0, none⟩)] (fun w => Rd w (some ⟨b, 0, none⟩) [.slice AK K.length cK, .int .i64 lo, .int .i64 hi] ∧ Rd w AK (K.flatMap encX) ∧ ∀ k, k < K.length → Rd w (K.getD k zX).A ((K.getD k zX).xs.flatMap (eI .i64))) (fun x : Nat × List (VX Bool) => .slice (some ⟨x.1, 0, none⟩) K.length K.length) (fun x => [.row (.slice (some ⟨x.1, 0, none⟩) K.length K.length) 69 1 K.length (x.2.flatMap encX), .pile (x.2.map (rwX eB 4 1))]) (fun x => x.2.length = K.length ∧ ∀ i, i < x.2.length → (x.2.getD i zX).xs = reachL lo hi (fun k => (K.getD k zX).xs) i) := by
  refine Ret.of e_29 Try.func29 rfl Try.ntmps29 rfl rfl (fun w hpre => ?_)
  have hpt := hpre.1.base
  have hKr := hpre.2.1.base
  have hKi := fun k hk => (hpre.2.2 k hk).base
  obtain rfl : n = K.length := hfk.len.symm
  have hfl := hfk.vl
  have hfv := hfk.v
  have hn1 := hfk.n1
  have hm0 : maxLen = 9223372036854775807 := rfl
  refine Ex.regSeq (ExL.pures 1 rfl ?_)
  refine ExL.nil ?_
  refine Ex.regSeq (ExL.pures 3 rfl ?_)
  refine ExL.free (fr_load rfl rfl rfl rfl (CellO.at 0 (Reads.old hpt) rfl)) rfl rfl rfl ?_
  refine ExL.pures 1 rfl ?_
  refine ExL.op rfl (op_makeSlice (sz := 24) rfl rfl rfl rfl rfl rfl rfl rfl (⟨by omega, by unfold maxLen; omega⟩) rfl rfl (fun r1 => ?_))
  refine ExL.pures 1 rfl ?_
  refine ExL.nil ?_
  refine Ex.seq ?_
  refine Ex.pile0 ?_
  refine Ex.regSeq (ExL.pures 3 rfl ?_)
  refine ExL.free (fr_load rfl rfl rfl rfl (CellO.at 0 (Reads.old hpt) rfl)) rfl rfl rfl ?_
  refine ExL.pures 2 rfl ?_
  refine ExL.nil ?_
  refine Ex.block ?_
  refine Ex.loopK (X := List (VX Bool)) (fun J => [(20, .int .i64 J.length)]) (fun J => [.row (.slice (some ⟨r1, 0, none⟩) K.length K.length) 69 1 K.length ((outX J K.length).flatMap encX), .pile (J.map (rwX eB 4 1))]) (fun J => J.length ≤ K.length ∧ ∀ i, i < J.length → (J.getD i zX).xs = reachL lo hi (fun k => (K.getD k zX).xs) i) (fun J => K.length - J.length) [] [(0, _), (2, _), (3, _), (18, _), (19, _)] [] 2 [1, 0] ⟨rfl, trivial⟩ ⟨rfl, rfl, rfl, rfl, rfl, trivial⟩ (pkR (zoutX rfl)) rfl ⟨Nat.zero_le _, fun i hi => by simp at hi⟩ (fun J hI => ?_)
  have hI : J.length ≤ K.length ∧ ∀ i, i < J.length → (J.getD i zX).xs = reachL lo hi (fun k => (K.getD k zX).xs) i := hI
  obtain ⟨hJ, hR⟩ := hI
  refine Ex.regSeq (ExL.pures 0 rfl ?_)
  refine ExL.lss rfl rfl rfl rfl rfl rfl (fun h2 => ?_) (fun h2 => ?_)
  · refine ExL.nil ?_
    refine Ex.seq ?_
    refine Ex.cond_t rfl ?_
    refine Ex.skip ?_
    refine Ex.seq ?_
    refine Ex.block ?_
    have hJK : J.length < K.length := by omega
    have hvl := hfl J.length hJK
    have hvl1 := hfl (J.length - 1) (by omega)
    have hrl : 0 < J.length → (J.getD (J.length - 1) zX).xs.length = (K.getD (J.length - 1) zX).xs.length := fun h => by rw [hR _ (by omega), reach_len]
    refine Ex.regSeq (ExL.pures 1 rfl ?_)
    refine ExL.free (fr_indexAddrF (Reads.old hKr) encX_len rfl rfl rfl rfl rfl rfl (by omega)) rfl rfl rfl ?_
    refine ExL.free (fr_load rfl rfl rfl rfl (cellJ (i := ↑J.length) (J.length) (Reads.old hKr) encX_len zX 0 rfl (by omega) (by omega) rfl)) rfl rfl rfl ?_
    refine ExL.pures 2 rfl ?_
    refine ExL.nil ?_
    refine Ex.regSeq (ExL.pures 4 rfl ?_)
    refine ExL.op rfl (op_makeSlice (sz := 1) rfl rfl rfl rfl rfl rfl rfl rfl (⟨by omega, by unfold maxLen; omega⟩) rfl rfl (fun r3 => ?_))
    refine ExL.free (fr_indexAddr (sz := 1) rfl rfl rfl rfl rfl rfl (by omega)) rfl rfl rfl ?_
    refine ExL.op rfl (op_storeRowF (i := 1) rfl rfl rfl rfl rfl rfl rfl rfl (room encX_len (k := J.length) (by rw [outX_len (by omega)]; omega) (by simp) rfl) (List.cons_ne_nil _ _) rfl (outX_put (⟨(some ⟨r3, 0, none⟩), (K.getD J.length zX).xs.length, (reachL lo hi (fun k => (K.getD k zX).xs) J.length)⟩ : VX Bool) (by omega) (by simp) (by unfold encX; rw [reach_len])) ?_)
    refine ExL.nil ?_
    refine Ex.regSeq (ExL.pures 3 rfl ?_)
    refine ExL.nil ?_
    refine Ex.block ?_
    refine Ex.loopK (X := Nat) (fun i => [(33, .int .i64 i)]) (fun i => [.row (.slice (some ⟨r3, 0, none⟩) (K.getD J.length zX).xs.length (K.getD J.length zX).xs.length) 4 1 (K.getD J.length zX).xs.length ((Sx.part false (reachL lo hi (fun k => (K.getD k zX).xs) J.length) i).flatMap eB)]) (fun i => i ≤ (K.getD J.length zX).xs.length) (fun i => (K.getD J.length zX).xs.length - i) 0 [(0, _), (2, _), (3, _), (4, _), (18, _), (19, _), (20, _), (31, _), (32, _)] [_, _] 3 [0, 1, 2] ⟨rfl, trivial⟩ ⟨rfl, rfl, rfl, rfl, rfl, rfl, rfl, rfl, rfl, trivial⟩ (pkR (zrow rfl)) rfl (Nat.zero_le _) (fun i hI => ?_)
    have hI : i ≤ (K.getD J.length zX).xs.length := hI
    refine Ex.regSeq (ExL.pures 0 rfl ?_)
    refine ExL.lss rfl rfl rfl rfl rfl rfl (fun h4 => ?_) (fun h4 => ?_)
    · refine ExL.nil ?_
      refine Ex.seq ?_
      refine Ex.cond_t rfl ?_
      refine Ex.skip ?_
      refine Ex.seq ?_
      refine Ex.block ?_
      have hii : i < (K.getD J.length zX).xs.length := by omega
      have hvi := hfv J.length i hJK
      refine Ex.regSeq (ExL.pures 1 rfl ?_)
      refine ExL.free (fr_indexAddrF (Reads.old (hKi J.length (by omega))) (eI_len .i64) rfl rfl rfl rfl rfl rfl (by omega)) rfl rfl rfl ?_
      refine ExL.free (fr_load rfl rfl rfl rfl (by first | exact cellN (Reads.old (hKi J.length (by omega))) (eI_len .i64) 0 0 rfl (by omega) rfl | exact cellF (Reads.old (hKi J.length (by omega))) (eI_len .i64) 0 0 rfl (by omega) rfl)) rfl rfl rfl ?_
      refine ExL.pures 2 rfl ?_
      refine ExL.nil ?_
      refine Ex.regSeq (ExL.pures 2 rfl ?_)
      refine ExL.free (fr_indexAddr (sz := 1) rfl rfl rfl rfl rfl rfl (by omega)) rfl rfl rfl ?_
      refine ExL.free (fr_load rfl rfl rfl rfl (cellE (v := .slice (some ⟨r3, 0, none⟩) (K.getD J.length zX).xs.length (K.getD J.length zX).xs.length) (i := ↑J.length) J.length (Reads.row (i := 1) rfl) encX_len zX 0 rfl (by omega) (by rw [outX_len (by simp; omega)]; omega) outX_last (by unfold encX; rw [reach_len]; rfl))) rfl rfl rfl ?_
      refine ExL.pures 2 rfl ?_
      refine ExL.free (fr_eql rfl rfl rfl) rfl rfl rfl ?_
      refine ExL.free (fr_indexAddr (sz := 1) rfl rfl rfl rfl rfl rfl (by omega)) rfl rfl rfl ?_
      refine ExL.op rfl (op_storeRowF (i := 0) rfl rfl rfl rfl rfl rfl rfl rfl (room eB_len (k := i) (by rw [part_len _ _ _ (by rw [reach_len]; omega), reach_len]; omega) (by simp) rfl) (List.cons_ne_nil _ _) rfl (rowQ_0 (by omega) (by simp) rfl) ?_)
      refine ExL.nil ?_
      refine Ex.regSeq (ExL.pures 3 rfl ?_)
      refine ExL.free (fr_load rfl rfl rfl rfl (CellO.at 0 (Reads.old hpt) rfl)) rfl rfl rfl ?_
      refine ExL.pures 1 rfl ?_
      refine ExL.free (by first | exact fr_sub64 rfl rfl rfl (by omega) | exact fr_sub rfl rfl rfl) rfl rfl rfl ?_
      refine ExL.free (fr_maxW ((J.length - 1 : Nat) : Int) (by omega) rfl rfl rfl) rfl rfl rfl ?_
      refine ExL.free (fr_indexAddrF (Reads.old hKr) encX_len rfl rfl rfl rfl rfl rfl (by omega)) rfl rfl rfl ?_
      refine ExL.free (fr_load rfl rfl rfl rfl (cellJ (i := ↑(J.length - 1)) ((J.length - 1)) (Reads.old hKr) encX_len zX 0 rfl (by omega) (by omega) rfl)) rfl rfl rfl ?_
      refine ExL.pures 2 rfl ?_
      refine ExL.nil ?_
      refine Ex.block ?_
      refine Ex.loopK (X := Nat) (fun j => [(56, .int .i64 j)]) (fun j => [.row (.slice (some ⟨r3, 0, none⟩) (K.getD J.length zX).xs.length (K.getD J.length zX).xs.length) 4 1 (K.getD J.length zX).xs.length ((rowQ lo hi (fun k => (K.getD k zX).xs) J.length i j).flatMap eB)]) (fun j => j ≤ (K.getD (J.length - 1) zX).xs.length) (fun j => (K.getD (J.length - 1) zX).xs.length - j) 0 [(0, _), (2, _), (3, _), (4, _), (6, _), (7, _), (18, _), (19, _), (20, _), (31, _), (32, _), (33, _), (55, _)] [_, _] 3 [0, 1, 2] ⟨rfl, trivial⟩ ⟨rfl, rfl, rfl, rfl, rfl, rfl, rfl, rfl, rfl, rfl, rfl, rfl, rfl, trivial⟩ (rfl) rfl (Nat.zero_le _) (fun j hI => ?_)
      have hI : j ≤ (K.getD (J.length - 1) zX).xs.length := hI
      refine Ex.regSeq (ExL.pures 0 rfl ?_)
      refine ExL.lss rfl rfl rfl rfl rfl rfl (fun h5 => ?_) (fun h5 => ?_)
      · refine ExL.nil ?_
        refine Ex.seq ?_
        refine Ex.cond_t rfl ?_
        refine Ex.skip ?_
        refine Ex.seq ?_
        refine Ex.block ?_
        have hvj := hfv (J.length - 1) j (by omega)
        refine Ex.regSeq (ExL.pures 2 rfl ?_)
        refine ExL.nil ?_
        refine Ex.drawM rfl ?_
        refine ExD.take (i := 0) rfl (by kernel_rfl) (pureVal_ok rfl) ((List.Sublist.refl _)) rfl rfl rfl ?_
        refine ExD.take (i := 1) rfl (by kernel_rfl) (pureVal_ok rfl) ((List.Sublist.refl _)) rfl rfl rfl ?_
        refine ExD.take (i := 2) rfl (by kernel_rfl) (fr_indexAddr (sz := 1) rfl rfl rfl rfl rfl rfl (by omega)) ((List.Sublist.refl _)) rfl rfl rfl ?_
        refine ExD.take (i := 3) rfl (by kernel_rfl) (fr_load rfl rfl rfl rfl (cellE (v := .slice (some ⟨r3, 0, none⟩) (K.getD J.length zX).xs.length (K.getD J.length zX).xs.length) (i := ↑J.length) J.length (Reads.row (i := 1) rfl) encX_len zX 0 rfl (by omega) (by rw [outX_len (by simp; omega)]; omega) outX_last (by unfold encX; rw [reach_len]; rfl))) ((List.Sublist.refl _)) rfl rfl rfl ?_
        refine ExD.take (i := 4) rfl (by kernel_rfl) (pureVal_ok rfl) ((List.Sublist.refl _)) rfl rfl rfl ?_
        refine ExD.take (i := 5) rfl (by kernel_rfl) (pureVal_ok rfl) ((List.Sublist.refl _)) rfl rfl rfl ?_
        refine ExD.take (i := 6) rfl (by kernel_rfl) (pureVal_ok rfl) ((List.Sublist.refl _)) rfl rfl rfl ?_
        refine ExD.take (i := 7) rfl (by kernel_rfl) (fr_indexAddr (sz := 1) rfl rfl rfl rfl rfl rfl (by omega)) ((List.Sublist.refl _)) rfl rfl rfl ?_
        refine ExD.take (i := 8) rfl (by kernel_rfl) (fr_load rfl rfl rfl rfl (cellE (v := .slice (some ⟨r3, 0, none⟩) (K.getD J.length zX).xs.length (K.getD J.length zX).xs.length) (i := ↑J.length) J.length (Reads.row (i := 1) rfl) encX_len zX 0 rfl (by omega) (by rw [outX_len (by simp; omega)]; omega) outX_last (by unfold encX; rw [reach_len]; rfl))) ((List.Sublist.refl _)) rfl rfl rfl ?_
        refine ExD.take (i := 9) rfl (by kernel_rfl) (pureVal_ok rfl) ((List.Sublist.refl _)) rfl rfl rfl ?_
        refine ExD.take (i := 10) rfl (by kernel_rfl) (fr_indexAddr (sz := 1) rfl rfl rfl rfl rfl rfl (by omega)) ((List.Sublist.refl _)) rfl rfl rfl ?_
        refine ExD.take (i := 11) rfl (by kernel_rfl) (fr_load rfl rfl rfl rfl (cellW (v := .bool (curR lo hi (fun k => (K.getD k zX).xs) J.length i j)) (i := ↑i) i (Reads.row (i := 0) rfl) eB_len false 0 rfl (by omega) (by rw [rowQ_len (by omega)]; omega) (rowQ_at (by omega)) rfl)) ((List.Sublist.refl _)) rfl rfl rfl ?_
        refine ExD.take (i := 12) rfl (by kernel_rfl) (pureVal_ok rfl) ((List.Sublist.refl _)) rfl rfl rfl ?_
        refine ExD.bool (d := 71) rfl (fun hb6 => ?_) (fun hb6 => ?_)
        · refine ExD.pass (i := 13) rfl (by kernel_rfl) ((List.Sublist.refl _)) rfl rfl rfl ?_
          refine ExD.pass (i := 14) rfl (by kernel_rfl) ((List.Sublist.refl _)) rfl rfl rfl ?_
          refine ExD.pass (i := 15) rfl (by kernel_rfl) ((List.Sublist.refl _)) rfl rfl rfl ?_
          refine ExD.pass (i := 16) rfl (by kernel_rfl) ((List.Sublist.refl _)) rfl rfl rfl ?_
          refine ExD.pass (i := 17) rfl (by kernel_rfl) ((List.Sublist.refl _)) rfl rfl rfl ?_
          refine ExD.pass (i := 18) rfl (by kernel_rfl) ((List.Sublist.refl _)) rfl rfl rfl ?_
          refine ExD.pass (i := 19) rfl (by kernel_rfl) ((List.Sublist.refl _)) rfl rfl rfl ?_
          refine ExD.pass (i := 20) rfl (by kernel_rfl) ((List.Sublist.refl _)) rfl rfl rfl ?_
          refine ExD.pass (i := 21) rfl (by kernel_rfl) ((List.Sublist.refl _)) rfl rfl rfl ?_
          refine ExD.pass (i := 22) rfl (by kernel_rfl) ((List.Sublist.refl _)) rfl rfl rfl ?_
          refine ExD.pass (i := 23) rfl (by kernel_rfl) ((List.Sublist.refl _)) rfl rfl rfl ?_
          refine ExD.pass (i := 24) rfl (by kernel_rfl) ((List.Sublist.refl _)) rfl rfl rfl ?_
          refine ExD.pass (i := 25) rfl (by kernel_rfl) ((List.Sublist.refl _)) rfl rfl rfl ?_
          refine ExD.pass (i := 26) rfl (by kernel_rfl) ((List.Sublist.refl _)) rfl rfl rfl ?_
          refine ExD.pass (i := 27) rfl (by kernel_rfl) ((List.Sublist.refl _)) rfl rfl rfl ?_
          refine ExD.pass (i := 28) rfl (by kernel_rfl) ((List.Sublist.refl _)) rfl rfl rfl ?_
          refine ExD.pass (i := 29) rfl (by kernel_rfl) ((List.Sublist.refl _)) rfl rfl rfl ?_
          refine ExD.pass (i := 30) rfl (by kernel_rfl) ((List.Sublist.refl _)) rfl rfl rfl ?_
          refine ExD.pass (i := 31) rfl (by kernel_rfl) ((List.Sublist.refl _)) rfl rfl rfl ?_
          refine ExD.pass (i := 32) rfl (by kernel_rfl) ((List.Sublist.refl _)) rfl rfl rfl ?_
          refine ExD.pass (i := 33) rfl (by kernel_rfl) ((List.Sublist.refl _)) rfl rfl rfl ?_
          refine ExD.pass (i := 34) rfl (by kernel_rfl) ((List.Sublist.refl _)) rfl rfl rfl ?_
          refine ExD.pass (i := 35) rfl (by kernel_rfl) ((List.Sublist.refl _)) rfl rfl rfl ?_
          refine ExD.pass (i := 36) rfl (by kernel_rfl) ((List.Sublist.refl _)) rfl rfl rfl ?_
          refine ExD.pass (i := 37) rfl (by kernel_rfl) ((List.Sublist.refl _)) rfl rfl rfl ?_
          refine ExD.pass (i := 38) rfl (by kernel_rfl) ((List.Sublist.refl _)) rfl rfl rfl ?_
          refine ExD.pass (i := 39) rfl (by kernel_rfl) ((List.Sublist.refl _)) rfl rfl rfl ?_
          refine ExD.pass (i := 40) rfl (by kernel_rfl) ((List.Sublist.refl _)) rfl rfl rfl ?_
          refine ExD.take (i := 41) rfl (by kernel_rfl) (pureVal_ok rfl) ((List.Sublist.refl _)) rfl rfl rfl ?_
          refine ExD.take (i := 42) rfl (by kernel_rfl) (fr_indexAddr (sz := 1) rfl rfl rfl rfl rfl rfl (by omega)) ((List.Sublist.refl _)) rfl rfl rfl ?_
          refine ExD.last (i := 43) rfl (by kernel_rfl) (by kernel_rfl) rfl (op_storeRowF (i := 0) rfl rfl rfl rfl rfl rfl rfl rfl (room eB_len (k := i) (by rw [rowQ_len (by omega)]; omega) (by simp) rfl) (List.cons_ne_nil _ _) rfl (rowQ_s (by omega) (by simp) (by first | exact congrArg eB (cr_st (by assumption)) | exact congrArg eB (cr_sf hR (by omega) (by omega) (by assumption) (by assumption)) | exact congrArg eB (cr_sg hR (by omega) (by omega) (by assumption) (by assumption)) | (exfalso; exact cr_z (by assumption) (by omega)))) ?_)
          refine ExD.done (by kernel_rfl) ?_
          refine Ex.region (ExL.pures 0 rfl ?_)
          refine ExL.free (by first | exact fr_add64 rfl rfl rfl (by omega) | exact fr_add rfl rfl rfl) rfl rfl rfl ?_
          refine ExL.pures 1 rfl ?_
          refine ExL.nil ?_
          refine Hand.mk (j + 1) 3 [0, 1, 2] ⟨rfl, trivial⟩ ⟨rfl, rfl, rfl, rfl, rfl, rfl, rfl, rfl, rfl, rfl, rfl, rfl, rfl, trivial⟩ (rfl) rfl (by omega) (by omega)
        · refine ExD.take (i := 13) rfl (by kernel_rfl) (pureVal_ok rfl) ((List.Sublist.refl _)) rfl rfl rfl ?_
          refine ExD.cmp_gtr (i := 14) rfl (by kernel_rfl) rfl rfl rfl ((List.Sublist.refl _)) rfl rfl rfl (fun h7 => ?_) (fun h7 => ?_)
          · refine ExD.take (i := 15) rfl (by kernel_rfl) (pureVal_ok rfl) ((List.Sublist.refl _)) rfl rfl rfl ?_
            refine ExD.take (i := 16) rfl (by kernel_rfl) (pureVal_ok rfl) ((List.Sublist.refl _)) rfl rfl rfl ?_
            refine ExD.take (i := 17) rfl (by kernel_rfl) (pureVal_ok rfl) ((List.Sublist.refl _)) rfl rfl rfl ?_
            refine ExD.take (i := 18) rfl (by kernel_rfl) (by first | exact fr_sub64 rfl rfl rfl (by omega) | exact fr_sub rfl rfl rfl) ((List.Sublist.refl _)) rfl rfl rfl ?_
            refine ExD.take (i := 19) rfl (by kernel_rfl) (fr_indexAddr (sz := 1) rfl rfl rfl rfl rfl rfl (by omega)) ((List.Sublist.refl _)) rfl rfl rfl ?_
            refine ExD.take (i := 20) rfl (by kernel_rfl) (fr_load rfl rfl rfl rfl (cellE (r := J.getD (J.length - 1) zX) (i := (↑J.length - 1)) (J.length - 1) (Reads.row (i := 1) rfl) encX_len zX 0 rfl (by omega) (by rw [outX_len (by simp; omega)]; omega) (outX_old (by omega)) rfl)) ((List.Sublist.refl _)) rfl rfl rfl ?_
            refine ExD.take (i := 21) rfl (by kernel_rfl) (pureVal_ok rfl) ((List.Sublist.refl _)) rfl rfl rfl ?_
            refine ExD.take (i := 22) rfl (by kernel_rfl) (fr_indexAddrF (readsX (i := 2) rfl (k := (J.length - 1)) (by omega)) eB_len rfl rfl rfl rfl rfl rfl (by omega)) ((List.Sublist.refl _)) rfl rfl rfl ?_
            refine ExD.take (i := 23) rfl (by kernel_rfl) (fr_load rfl rfl rfl rfl (by first | exact cellN (readsX (i := 2) rfl (k := (J.length - 1)) (by omega)) eB_len false 0 rfl (by omega) rfl | exact cellF (readsX (i := 2) rfl (k := (J.length - 1)) (by omega)) eB_len false 0 rfl (by omega) rfl)) ((List.Sublist.refl _)) rfl rfl rfl ?_
            refine ExD.take (i := 24) rfl (by kernel_rfl) (pureVal_ok rfl) ((List.Sublist.refl _)) rfl rfl rfl ?_
            refine ExD.take (i := 25) rfl (by kernel_rfl) (pureVal_ok rfl) ((List.Sublist.refl _)) rfl rfl rfl ?_
            refine ExD.bool (d := 84) rfl (fun hb8 => ?_) (fun hb8 => ?_)
            · refine ExD.take (i := 26) rfl (by kernel_rfl) (pureVal_ok rfl) ((List.Sublist.refl _)) rfl rfl rfl ?_
              refine ExD.take (i := 27) rfl (by kernel_rfl) (pureVal_ok rfl) ((List.Sublist.refl _)) rfl rfl rfl ?_
              refine ExD.take (i := 28) rfl (by kernel_rfl) (pureVal_ok rfl) ((List.Sublist.refl _)) rfl rfl rfl ?_
              refine ExD.take (i := 29) rfl (by kernel_rfl) (pureVal_ok rfl) ((List.Sublist.refl _)) rfl rfl rfl ?_
              refine ExD.take (i := 30) rfl (by kernel_rfl) (fr_load rfl rfl rfl rfl (CellO.at 0 (Reads.old hpt) rfl)) ((List.Sublist.refl _)) rfl rfl rfl ?_
              refine ExD.take (i := 31) rfl (by kernel_rfl) (pureVal_ok rfl) ((List.Sublist.refl _)) rfl rfl rfl ?_
              refine ExD.take (i := 32) rfl (by kernel_rfl) (by first | exact fr_sub64 rfl rfl rfl (by omega) | exact fr_sub rfl rfl rfl) ((List.Sublist.refl _)) rfl rfl rfl ?_
              refine ExD.take (i := 33) rfl (by kernel_rfl) (fr_indexAddrF (Reads.old hKr) encX_len rfl rfl rfl rfl rfl rfl (by omega)) ((List.Sublist.refl _)) rfl rfl rfl ?_
              refine ExD.take (i := 34) rfl (by kernel_rfl) (fr_load rfl rfl rfl rfl (cellJ (i := (↑J.length - 1)) ((J.length - 1)) (Reads.old hKr) encX_len zX 0 rfl (by omega) (by omega) rfl)) ((List.Sublist.refl _)) rfl rfl rfl ?_
              refine ExD.take (i := 35) rfl (by kernel_rfl) (pureVal_ok rfl) ((List.Sublist.refl _)) rfl rfl rfl ?_
              refine ExD.take (i := 36) rfl (by kernel_rfl) (fr_indexAddrF (Reads.old (hKi (J.length - 1) (by omega))) (eI_len .i64) rfl rfl rfl rfl rfl rfl (by omega)) ((List.Sublist.refl _)) rfl rfl rfl ?_
              refine ExD.take (i := 37) rfl (by kernel_rfl) (fr_load rfl rfl rfl rfl (by first | exact cellN (Reads.old (hKi (J.length - 1) (by omega))) (eI_len .i64) 0 0 rfl (by omega) rfl | exact cellF (Reads.old (hKi (J.length - 1) (by omega))) (eI_len .i64) 0 0 rfl (by omega) rfl)) ((List.Sublist.refl _)) rfl rfl rfl ?_
              refine ExD.take (i := 38) rfl (by kernel_rfl) (pureVal_ok rfl) ((List.Sublist.refl _)) rfl rfl rfl ?_
              refine ExD.op (i := 39) rfl (by kernel_rfl) rfl (op_ret rfl rfl rfl (c_goes _ lo hi (by omega) _ ((K.getD (J.length - 1) zX).xs.getD j 0) ((K.getD J.length zX).xs.getD i 0) (by omega) (by omega)) (Reads.get (Reads.old hpt)) rfl rfl (fun x9 hx9 => ⟨(List.Sublist.refl _), ?_⟩))
              refine ExD.take (i := 40) rfl (by kernel_rfl) (pureVal_ok rfl) ((List.Sublist.refl _)) rfl rfl rfl ?_
              refine ExD.take (i := 41) rfl (by kernel_rfl) (pureVal_ok rfl) ((List.Sublist.refl _)) rfl rfl rfl ?_
              refine ExD.take (i := 42) rfl (by kernel_rfl) (fr_indexAddr (sz := 1) rfl rfl rfl rfl rfl rfl (by omega)) ((List.Sublist.refl _)) rfl rfl rfl ?_
              refine ExD.last (i := 43) rfl (by kernel_rfl) (by kernel_rfl) rfl (op_storeRowF (i := 0) rfl rfl rfl rfl rfl rfl rfl rfl (room eB_len (k := i) (by rw [rowQ_len (by omega)]; omega) (by simp) rfl) (List.cons_ne_nil _ _) rfl (rowQ_s (by omega) (by simp) (by first | exact congrArg eB (cr_st (by assumption)) | exact congrArg eB (cr_sf hR (by omega) (by omega) (by assumption) (by assumption)) | exact congrArg eB (cr_sg hR (by omega) (by omega) (by assumption) (by assumption)) | (exfalso; exact cr_z (by assumption) (by omega)))) ?_)
              refine ExD.done (by kernel_rfl) ?_
              refine Ex.region (ExL.pures 0 rfl ?_)
              refine ExL.free (by first | exact fr_add64 rfl rfl rfl (by omega) | exact fr_add rfl rfl rfl) rfl rfl rfl ?_
              refine ExL.pures 1 rfl ?_
              refine ExL.nil ?_
              refine Hand.mk (j + 1) 3 [0, 1, 2] ⟨rfl, trivial⟩ ⟨rfl, rfl, rfl, rfl, rfl, rfl, rfl, rfl, rfl, rfl, rfl, rfl, rfl, trivial⟩ (rfl) rfl (by omega) (by omega)
            · refine ExD.pass (i := 26) rfl (by kernel_rfl) ((List.Sublist.refl _)) rfl rfl rfl ?_
              refine ExD.pass (i := 27) rfl (by kernel_rfl) ((List.Sublist.refl _)) rfl rfl rfl ?_
              refine ExD.pass (i := 28) rfl (by kernel_rfl) ((List.Sublist.refl _)) rfl rfl rfl ?_
              refine ExD.pass (i := 29) rfl (by kernel_rfl) ((List.Sublist.refl _)) rfl rfl rfl ?_
              refine ExD.pass (i := 30) rfl (by kernel_rfl) ((List.Sublist.refl _)) rfl rfl rfl ?_
              refine ExD.pass (i := 31) rfl (by kernel_rfl) ((List.Sublist.refl _)) rfl rfl rfl ?_
              refine ExD.pass (i := 32) rfl (by kernel_rfl) ((List.Sublist.refl _)) rfl rfl rfl ?_
              refine ExD.pass (i := 33) rfl (by kernel_rfl) ((List.Sublist.refl _)) rfl rfl rfl ?_
              refine ExD.pass (i := 34) rfl (by kernel_rfl) ((List.Sublist.refl _)) rfl rfl rfl ?_
              refine ExD.pass (i := 35) rfl (by kernel_rfl) ((List.Sublist.refl _)) rfl rfl rfl ?_
              refine ExD.pass (i := 36) rfl (by kernel_rfl) ((List.Sublist.refl _)) rfl rfl rfl ?_
              refine ExD.pass (i := 37) rfl (by kernel_rfl) ((List.Sublist.refl _)) rfl rfl rfl ?_
              refine ExD.pass (i := 38) rfl (by kernel_rfl) ((List.Sublist.refl _)) rfl rfl rfl ?_
              refine ExD.pass (i := 39) rfl (by kernel_rfl) ((List.Sublist.refl _)) rfl rfl rfl ?_
              refine ExD.take (i := 40) rfl (by kernel_rfl) (pureVal_ok rfl) ((List.Sublist.refl _)) rfl rfl rfl ?_
              refine ExD.take (i := 41) rfl (by kernel_rfl) (pureVal_ok rfl) ((List.Sublist.refl _)) rfl rfl rfl ?_
              refine ExD.take (i := 42) rfl (by kernel_rfl) (fr_indexAddr (sz := 1) rfl rfl rfl rfl rfl rfl (by omega)) ((List.Sublist.refl _)) rfl rfl rfl ?_
              refine ExD.last (i := 43) rfl (by kernel_rfl) (by kernel_rfl) rfl (op_storeRowF (i := 0) rfl rfl rfl rfl rfl rfl rfl rfl (room eB_len (k := i) (by rw [rowQ_len (by omega)]; omega) (by simp) rfl) (List.cons_ne_nil _ _) rfl (rowQ_s (by omega) (by simp) (by first | exact congrArg eB (cr_st (by assumption)) | exact congrArg eB (cr_sf hR (by omega) (by omega) (by assumption) (by assumption)) | exact congrArg eB (cr_sg hR (by omega) (by omega) (by assumption) (by assumption)) | (exfalso; exact cr_z (by assumption) (by omega)))) ?_)
              refine ExD.done (by kernel_rfl) ?_
              refine Ex.region (ExL.pures 0 rfl ?_)
              refine ExL.free (by first | exact fr_add64 rfl rfl rfl (by omega) | exact fr_add rfl rfl rfl) rfl rfl rfl ?_
              refine ExL.pures 1 rfl ?_
              refine ExL.nil ?_
              refine Hand.mk (j + 1) 3 [0, 1, 2] ⟨rfl, trivial⟩ ⟨rfl, rfl, rfl, rfl, rfl, rfl, rfl, rfl, rfl, rfl, rfl, rfl, rfl, trivial⟩ (rfl) rfl (by omega) (by omega)
          · refine ExD.take (i := 15) rfl (by kernel_rfl) (pureVal_ok rfl) ((List.Sublist.refl _)) rfl rfl rfl ?_
            refine ExD.pass (i := 16) rfl (by kernel_rfl) ((List.Sublist.refl _)) rfl rfl rfl ?_
            refine ExD.pass (i := 17) rfl (by kernel_rfl) ((List.Sublist.refl _)) rfl rfl rfl ?_
            refine ExD.pass (i := 18) rfl (by kernel_rfl) ((List.Sublist.refl _)) rfl rfl rfl ?_
            refine ExD.pass (i := 19) rfl (by kernel_rfl) ((List.Sublist.refl _)) rfl rfl rfl ?_
            refine ExD.pass (i := 20) rfl (by kernel_rfl) ((List.Sublist.refl _)) rfl rfl rfl ?_
            refine ExD.pass (i := 21) rfl (by kernel_rfl) ((List.Sublist.refl _)) rfl rfl rfl ?_
            refine ExD.pass (i := 22) rfl (by kernel_rfl) ((List.Sublist.refl _)) rfl rfl rfl ?_
            refine ExD.pass (i := 23) rfl (by kernel_rfl) ((List.Sublist.refl _)) rfl rfl rfl ?_
            refine ExD.take (i := 24) rfl (by kernel_rfl) (pureVal_ok rfl) ((List.Sublist.refl _)) rfl rfl rfl ?_
            refine ExD.take (i := 25) rfl (by kernel_rfl) (pureVal_ok rfl) ((List.Sublist.refl _)) rfl rfl rfl ?_
            refine ExD.pass (i := 26) rfl (by kernel_rfl) ((List.Sublist.refl _)) rfl rfl rfl ?_
            refine ExD.pass (i := 27) rfl (by kernel_rfl) ((List.Sublist.refl _)) rfl rfl rfl ?_
            refine ExD.pass (i := 28) rfl (by kernel_rfl) ((List.Sublist.refl _)) rfl rfl rfl ?_
            refine ExD.pass (i := 29) rfl (by kernel_rfl) ((List.Sublist.refl _)) rfl rfl rfl ?_
            refine ExD.pass (i := 30) rfl (by kernel_rfl) ((List.Sublist.refl _)) rfl rfl rfl ?_
            refine ExD.pass (i := 31) rfl (by kernel_rfl) ((List.Sublist.refl _)) rfl rfl rfl ?_
            refine ExD.pass (i := 32) rfl (by kernel_rfl) ((List.Sublist.refl _)) rfl rfl rfl ?_
            refine ExD.pass (i := 33) rfl (by kernel_rfl) ((List.Sublist.refl _)) rfl rfl rfl ?_
            refine ExD.pass (i := 34) rfl (by kernel_rfl) ((List.Sublist.refl _)) rfl rfl rfl ?_
            refine ExD.pass (i := 35) rfl (by kernel_rfl) ((List.Sublist.refl _)) rfl rfl rfl ?_
            refine ExD.pass (i := 36) rfl (by kernel_rfl) ((List.Sublist.refl _)) rfl rfl rfl ?_
            refine ExD.pass (i := 37) rfl (by kernel_rfl) ((List.Sublist.refl _)) rfl rfl rfl ?_
            refine ExD.pass (i := 38) rfl (by kernel_rfl) ((List.Sublist.refl _)) rfl rfl rfl ?_
            refine ExD.pass (i := 39) rfl (by kernel_rfl) ((List.Sublist.refl _)) rfl rfl rfl ?_
            refine ExD.take (i := 40) rfl (by kernel_rfl) (pureVal_ok rfl) ((List.Sublist.refl _)) rfl rfl rfl ?_
            refine ExD.take (i := 41) rfl (by kernel_rfl) (pureVal_ok rfl) ((List.Sublist.refl _)) rfl rfl rfl ?_
            refine ExD.take (i := 42) rfl (by kernel_rfl) (fr_indexAddr (sz := 1) rfl rfl rfl rfl rfl rfl (by omega)) ((List.Sublist.refl _)) rfl rfl rfl ?_
            refine ExD.last (i := 43) rfl (by kernel_rfl) (by kernel_rfl) rfl (op_storeRowF (i := 0) rfl rfl rfl rfl rfl rfl rfl rfl (room eB_len (k := i) (by rw [rowQ_len (by omega)]; omega) (by simp) rfl) (List.cons_ne_nil _ _) rfl (rowQ_s (by omega) (by simp) (by first | exact congrArg eB (cr_st (by assumption)) | exact congrArg eB (cr_sf hR (by omega) (by omega) (by assumption) (by assumption)) | exact congrArg eB (cr_sg hR (by omega) (by omega) (by assumption) (by assumption)) | (exfalso; exact cr_z (by assumption) (by omega)))) ?_)
            refine ExD.done (by kernel_rfl) ?_
            refine Ex.region (ExL.pures 0 rfl ?_)
            refine ExL.free (by first | exact fr_add64 rfl rfl rfl (by omega) | exact fr_add rfl rfl rfl) rfl rfl rfl ?_
            refine ExL.pures 1 rfl ?_
            refine ExL.nil ?_
            refine Hand.mk (j + 1) 3 [0, 1, 2] ⟨rfl, trivial⟩ ⟨rfl, rfl, rfl, rfl, rfl, rfl, rfl, rfl, rfl, rfl, rfl, rfl, rfl, trivial⟩ (rfl) rfl (by omega) (by omega)
      · refine ExL.nil ?_
        refine Ex.seq ?_
        refine Ex.cond_f rfl ?_
        refine Ex.exit ?_
        obtain rfl : j = (K.getD (J.length - 1) zX).xs.length := (by omega)
        rw [rowQ_fin hii (cr_len hii rfl)]
        refine Ex.region (ExL.pures 0 rfl ?_)
        refine ExL.free (by first | exact fr_add64 rfl rfl rfl (by omega) | exact fr_add rfl rfl rfl) rfl rfl rfl ?_
        refine ExL.pures 1 rfl ?_
        refine ExL.nil ?_
        refine Hand.mk (i + 1) 3 [0, 1, 2] ⟨rfl, trivial⟩ ⟨rfl, rfl, rfl, rfl, rfl, rfl, rfl, rfl, rfl, trivial⟩ (rfl) rfl (by omega) (by omega)
    · refine ExL.nil ?_
      refine Ex.seq ?_
      refine Ex.cond_f rfl ?_
      refine Ex.exit ?_
      obtain rfl : i = (K.getD J.length zX).xs.length := (by omega)
      rw [part_full rfl]
      refine Ex.conv (layX (reach_len lo hi (fun k => (K.getD k zX).xs) J.length) (perm_lt (i := 0) (j := 2) rfl rfl rfl)) ?_
      refine Ex.region (ExL.pures 0 rfl ?_)
      refine ExL.free (by first | exact fr_add64 rfl rfl rfl (by omega) | exact fr_add rfl rfl rfl) rfl rfl rfl ?_
      refine ExL.pures 1 rfl ?_
      refine ExL.nil ?_
      have hJn : (J ++ [(⟨(some ⟨r3, 0, none⟩), (K.getD J.length zX).xs.length, (reachL lo hi (fun k => (K.getD k zX).xs) J.length)⟩ : VX Bool)]).length = J.length + 1 := by simp
      refine Hand.mk (J ++ [(⟨(some ⟨r3, 0, none⟩), (K.getD J.length zX).xs.length, (reachL lo hi (fun k => (K.getD k zX).xs) J.length)⟩ : VX Bool)]) 2 [1, 0] ⟨agI (by rw [hJn]; rfl), trivial⟩ ⟨rfl, rfl, rfl, rfl, rfl, trivial⟩ (rfl) rfl (⟨by rw [hJn]; omega, rk_snoc hR⟩) (by rw [hJn]; omega)
  · refine ExL.nil ?_
    refine Ex.seq ?_
    refine Ex.cond_f rfl ?_
    refine Ex.exit ?_
    have hJn : J.length = K.length := by omega
    refine Ex.regSeq (ExL.pures 2 rfl ?_)
    refine ExL.nil ?_
    refine Ex.ret ?_
    refine RetQ.mk (r1, J) rfl (.tmp rfl .nil) (rfl) [0, 1] (by rw [outX_all hJn]; rfl) rfl (⟨hJn, hR⟩)
theorem e_64 : Enters Try.prog 64 := Enters.of Try.func64 rfl
theorem c_blIndex (s : List Bool) (As : Option Addr) (cs : Nat) (hls : s.length ≤ maxLen) : Ret Try.prog 64 [.slice As s.length cs, .bool true] (fun w => Rd w As (s.flatMap eB)) (fun x : Unit => .int .i64 (idxF id s)) (fun x => []) (fun x => True) := by
  refine Ret.of e_64 Try.func64 rfl Try.ntmps64 rfl rfl (fun w hpre => ?_)
  have hs := hpre.base
  have hm0 : maxLen = 9223372036854775807 := rfl
  refine Ex.regSeq (ExL.pures 1 rfl ?_)
  refine ExL.nil ?_
  refine Ex.seq ?_
  refine Ex.regSeq (ExL.pures 3 rfl ?_)
  refine ExL.nil ?_
  refine Ex.block ?_
  refine Ex.loopK (X := Nat) (fun k => [(8, .int .i64 k)]) (fun k => []) (fun k => k ≤ s.length ∧ ∀ i, i < k → id (s.getD i false) = false) (fun k => s.length - k) 0 [(0, _), (1, _), (7, _)] [] 0 [] ⟨rfl, trivial⟩ ⟨rfl, rfl, rfl, trivial⟩ (rfl) rfl ⟨Nat.zero_le _, fun i hi => by omega⟩ (fun k hI => ?_)
  have hI : k ≤ s.length ∧ ∀ i, i < k → id (s.getD i false) = false := hI
  obtain ⟨hk, hall⟩ := hI
  refine Ex.regSeq (ExL.pures 0 rfl ?_)
  refine ExL.lss rfl rfl rfl rfl rfl rfl (fun h1 => ?_) (fun h1 => ?_)
  · refine ExL.nil ?_
    refine Ex.seq ?_
    refine Ex.cond_t rfl ?_
    refine Ex.skip ?_
    refine Ex.seq ?_
    refine Ex.block ?_
    refine Ex.regSeq (ExL.pures 2 rfl ?_)
    refine ExL.nil ?_
    refine Ex.regSeq (ExL.pures 3 rfl ?_)
    refine ExL.free (fr_indexAddrF (Reads.old hs) eB_len rfl rfl rfl rfl rfl rfl (by omega)) rfl rfl rfl ?_
    refine ExL.free (fr_load rfl rfl rfl rfl (by first | exact cellN (Reads.old hs) eB_len false 0 rfl (by omega) rfl | exact cellF (Reads.old hs) eB_len false 0 rfl (by omega) rfl)) rfl rfl rfl ?_
    refine ExL.free (fr_eql_bool rfl rfl rfl rfl) rfl rfl rfl ?_
    refine ExL.nil ?_
    refine Ex.cond rfl (fun hb2 => ?_) (fun hb2 => ?_)
    · refine Ex.regSeq (ExL.pures 2 rfl ?_)
      refine ExL.nil ?_
      refine Ex.ret ?_
      refine RetQ.mk () rfl (.tmp rfl .nil) (tI (by first | exact (idx_hit (p := id) (d := false) (by omega) hall (by simp_all; done)).symm | exact (idx_none (p := id) (d := false) (by omega) hall).symm)) [] (rfl) rfl (trivial)
    · refine Ex.skip ?_
      refine Ex.region (ExL.pures 0 rfl ?_)
      refine ExL.free (by first | exact fr_add64 rfl rfl rfl (by omega) | exact fr_add rfl rfl rfl) rfl rfl rfl ?_
      refine ExL.pures 1 rfl ?_
      refine ExL.nil ?_
      refine Hand.mk (k + 1) 0 [] ⟨rfl, trivial⟩ ⟨rfl, rfl, rfl, trivial⟩ (rfl) rfl (⟨by omega, all_snoc hall (by first | assumption | (simp_all; done))⟩) (by omega)
  · refine ExL.nil ?_
    refine Ex.seq ?_
    refine Ex.cond_f rfl ?_
    refine Ex.exit ?_
    refine Ex.regSeq (ExL.pures 1 rfl ?_)
    refine ExL.nil ?_
    refine Ex.ret ?_
    refine RetQ.mk () rfl (.tmp rfl .nil) (tI (by first | exact (idx_hit (p := id) (d := false) (by omega) hall (by simp_all; done)).symm | exact (idx_none (p := id) (d := false) (by omega) hall).symm)) [] (rfl) rfl (trivial)
theorem e_30 : Enters Try.prog 30 := Enters.of Try.func30 rfl
theorem c_blContains (s : List Bool) (As : Option Addr) (cs : Nat) (hls : s.length ≤ maxLen) : Ret Try.prog 30 [.slice As s.length cs, .bool true] (fun w => Rd w As (s.flatMap eB)) (fun x : Unit => .bool (s.any id)) (fun x => []) (fun x => True) := by
  refine Ret.of e_30 Try.func30 rfl Try.ntmps30 rfl rfl (fun w hpre => ?_)
  have hs := hpre.base
  have hm0 : maxLen = 9223372036854775807 := rfl
  refine Ex.regSeq (ExL.pures 1 rfl ?_)
  refine ExL.nil ?_
  refine Ex.regSeq (ExL.pures 2 rfl ?_)
  refine ExL.op rfl (op_ret rfl rfl rfl (c_blIndex s _ _ (by omega)) (Reads.get (Reads.old hs)) rfl rfl (fun x1 hx1 => ?_))
  refine ExL.geq rfl rfl rfl rfl rfl rfl (fun h2 => ?_) (fun h2 => ?_)
  · refine ExL.pures 1 rfl ?_
    refine ExL.nil ?_
    refine Ex.ret ?_
    refine RetQ.mk () rfl (.tmp rfl .nil) (tB (by rw [any_idx]; first | exact dec_t (by omega) | exact dec_f (by omega) | rfl)) [] (rfl) rfl (trivial)
  · refine ExL.pures 1 rfl ?_
    refine ExL.nil ?_
    refine Ex.ret ?_
    refine RetQ.mk () rfl (.tmp rfl .nil) (tB (by rw [any_idx]; first | exact dec_t (by omega) | exact dec_f (by omega) | rfl)) [] (rfl) rfl (trivial)
theorem e_32 : Enters Try.prog 32 := Enters.of Try.func32 rfl
theorem c_l05Any (s : List Bool) (As : Option Addr) (cs : Nat) (hls : s.length ≤ maxLen) : Ret Try.prog 32 [.slice As s.length cs] (fun w => Rd w As (s.flatMap eB)) (fun x : Unit => .bool (s.any id)) (fun x => []) (fun x => True) := by
  refine Ret.of e_32 Try.func32 rfl Try.ntmps32 rfl rfl (fun w hpre => ?_)
  have hs := hpre.base
  have hm0 : maxLen = 9223372036854775807 := rfl
  refine Ex.regSeq (ExL.pures 1 rfl ?_)
  refine ExL.nil ?_
  refine Ex.seq ?_
  refine Ex.regSeq (ExL.pures 1 rfl ?_)
  refine ExL.nil ?_
  refine Ex.block ?_
  refine Ex.loopK (X := Nat) (fun k => [(3, .int .i64 k)]) (fun k => []) (fun k => k ≤ s.length ∧ ∀ i, i < k → s.getD i false = false) (fun k => s.length - k) 0 [(0, _)] [] 0 [] ⟨rfl, trivial⟩ ⟨rfl, trivial⟩ (rfl) rfl ⟨Nat.zero_le _, fun i hi => by omega⟩ (fun k hI => ?_)
  have hI : k ≤ s.length ∧ ∀ i, i < k → s.getD i false = false := hI
  obtain ⟨hk, hall⟩ := hI
  refine Ex.seq ?_
  refine Ex.regSeq (ExL.pures 3 rfl ?_)
  refine ExL.lss rfl rfl rfl rfl rfl rfl (fun h1 => ?_) (fun h1 => ?_)
  · refine ExL.nil ?_
    refine Ex.cond_t rfl ?_
    refine Ex.skip ?_
    refine Ex.seq ?_
    refine Ex.block ?_
    refine Ex.regSeq (ExL.pures 2 rfl ?_)
    refine ExL.free (fr_indexAddrF (Reads.old hs) eB_len rfl rfl rfl rfl rfl rfl (by omega)) rfl rfl rfl ?_
    refine ExL.free (fr_load rfl rfl rfl rfl (by first | exact cellN (Reads.old hs) eB_len false 0 rfl (by omega) rfl | exact cellF (Reads.old hs) eB_len false 0 rfl (by omega) rfl)) rfl rfl rfl ?_
    refine ExL.nil ?_
    refine Ex.cond rfl (fun hb2 => ?_) (fun hb2 => ?_)
    · refine Ex.regSeq (ExL.pures 1 rfl ?_)
      refine ExL.nil ?_
      refine Ex.ret ?_
      refine RetQ.mk () rfl (.tmp rfl .nil) (tB (by first | exact any_yesB (k := k) (by omega) (by assumption) | exact any_noB (k := k) (by omega) hall)) [] (rfl) rfl (trivial)
    · refine Ex.skip ?_
      refine Ex.region (ExL.pures 1 rfl ?_)
      refine ExL.free (by first | exact fr_add64 rfl rfl rfl (by omega) | exact fr_add rfl rfl rfl) rfl rfl rfl ?_
      refine ExL.pures 1 rfl ?_
      refine ExL.nil ?_
      refine Hand.mk (k + 1) 0 [] ⟨rfl, trivial⟩ ⟨rfl, trivial⟩ (rfl) rfl (⟨by omega, all_snoc hall (by first | assumption | (simp_all; done))⟩) (by omega)
  · refine ExL.nil ?_
    refine Ex.cond_f rfl ?_
    refine Ex.exit ?_
    refine Ex.regSeq (ExL.pures 1 rfl ?_)
    refine ExL.nil ?_
    refine Ex.ret ?_
    refine RetQ.mk () rfl (.tmp rfl .nil) (tB (by first | exact any_yesB (k := k) (by omega) (by assumption) | exact any_noB (k := k) (by omega) hall)) [] (rfl) rfl (trivial)
theorem e_31 : Enters Try.prog 31 := Enters.of Try.func31 rfl
theorem c_reached (v0 : Value) (K : List (VX Int)) (n : Nat) (hfk : FK K n) (lo hi : Int) (hlh : 0 ≤ lo ∧ hi ≤ 1000000000000) (AK : Option Addr) (cK b : Nat) : Ret Try.prog 31 [.pointer (some ⟨b, 0, none⟩)] (fun w => Rd w (some ⟨b, 0, none⟩) [v0, .slice AK K.length cK, .int .i64 lo, .int .i64 hi] ∧ Rd w AK (K.flatMap encX) ∧ ∀ k, k < K.length → Rd w (K.getD k zX).A ((K.getD k zX).xs.flatMap (eI .i64))) (fun x : GSt => .slice x.A K.length x.c) (fun x => [.row (.slice x.A K.length x.c) 69 1 K.length (x.J.flatMap encX), .pile (x.J.map (rwX eB 4 1))]) (fun x => x.J.length = K.length ∧ ∀ i, i < x.J.length → (x.J.getD i zX).xs = reachL lo hi (fun k => (K.getD k zX).xs) i) := by
  refine Ret.of e_31 Try.func31 rfl Try.ntmps31 rfl rfl (fun w hpre => ?_)
  have hpt := hpre.1.base
  have hKr := hpre.2.1.base
  have hKi := fun k hk => (hpre.2.2 k hk).base
  obtain rfl : n = K.length := hfk.len.symm
  have hfl := hfk.vl
  have hfv := hfk.v
  have hn1 := hfk.n1
  have hm0 : maxLen = 9223372036854775807 := rfl
  refine Ex.regSeq (ExL.pures 1 rfl ?_)
  refine ExL.nil ?_
  refine Ex.regSeq (ExL.pures 0 rfl ?_)
  refine ExL.op rfl (op_buildSlice (sz := 1) rfl rfl rfl rfl rfl rfl rfl rfl (by decide) rfl rfl rfl (fun r1 => ?_))
  refine ExL.pures 1 rfl ?_
  refine ExL.nil ?_
  refine Ex.seq ?_
  refine Ex.pile0 ?_
  refine Ex.regSeq (ExL.pures 1 rfl ?_)
  refine ExL.nil ?_
  refine Ex.block ?_
  refine Ex.loopK (X := GSt) (fun q => [(3, .slice q.A q.J.length q.c), (4, .int .i64 q.J.length)]) (fun q => [.row (.slice q.A q.J.length q.c) 69 1 q.J.length (q.J.flatMap encX), .pile (q.J.map (rwX eB 4 1))]) (fun q => q.J.length ≤ K.length ∧ ∀ i, i < q.J.length → (q.J.getD i zX).xs = reachL lo hi (fun k => (K.getD k zX).xs) i) (fun q => K.length - q.J.length) (⟨(some ⟨r1, 0, none⟩), 0, []⟩ : GSt) [(0, _), (2, _)] [] 2 [1, 0] ⟨rfl, rfl, trivial⟩ ⟨rfl, rfl, trivial⟩ (rfl) rfl ⟨Nat.zero_le _, fun i hi => by simp at hi⟩ (fun q hI => ?_)
  have hI : q.J.length ≤ K.length ∧ ∀ i, i < q.J.length → (q.J.getD i zX).xs = reachL lo hi (fun k => (K.getD k zX).xs) i := hI
  obtain ⟨hJ, hR⟩ := hI
  refine Ex.seq ?_
  refine Ex.regSeq (ExL.pures 4 rfl ?_)
  refine ExL.free (fr_load rfl rfl rfl rfl (CellO.at 1 (Reads.old hpt) rfl)) rfl rfl rfl ?_
  refine ExL.pures 1 rfl ?_
  refine ExL.lss rfl rfl rfl rfl rfl rfl (fun h2 => ?_) (fun h2 => ?_)
  · refine ExL.nil ?_
    refine Ex.cond_t rfl ?_
    refine Ex.skip ?_
    refine Ex.seq ?_
    refine Ex.block ?_
    have hJK : q.J.length < K.length := by omega
    have hvl := hfl q.J.length hJK
    have hvl1 := hfl (q.J.length - 1) (by omega)
    have hrl : 0 < q.J.length → (q.J.getD (q.J.length - 1) zX).xs.length = (K.getD (q.J.length - 1) zX).xs.length := fun h => by rw [hR _ (by omega), reach_len]
    refine Ex.regSeq (ExL.pures 3 rfl ?_)
    refine ExL.free (fr_load rfl rfl rfl rfl (CellO.at 1 (Reads.old hpt) rfl)) rfl rfl rfl ?_
    refine ExL.pures 1 rfl ?_
    refine ExL.free (fr_indexAddrF (Reads.old hKr) encX_len rfl rfl rfl rfl rfl rfl (by omega)) rfl rfl rfl ?_
    refine ExL.free (fr_load rfl rfl rfl rfl (cellJ (i := ↑q.J.length) (q.J.length) (Reads.old hKr) encX_len zX 0 rfl (by omega) (by omega) rfl)) rfl rfl rfl ?_
    refine ExL.pures 1 rfl ?_
    refine ExL.op rfl (op_makeSlice (sz := 1) rfl rfl rfl rfl rfl rfl rfl rfl (⟨by omega, by unfold maxLen; omega⟩) rfl rfl (fun r3 => ?_))
    refine ExL.pures 1 rfl ?_
    refine ExL.nil ?_
    refine Ex.seq ?_
    refine Ex.regSeq (ExL.pures 1 rfl ?_)
    refine ExL.nil ?_
    refine Ex.block ?_
    refine Ex.loopK (X := Nat) (fun i => [(6, .int .i64 i)]) (fun i => [.row (.slice (some ⟨r3, 0, none⟩) (K.getD q.J.length zX).xs.length (K.getD q.J.length zX).xs.length) 4 1 (K.getD q.J.length zX).xs.length ((Sx.part false (reachL lo hi (fun k => (K.getD k zX).xs) q.J.length) i).flatMap eB)]) (fun i => i ≤ (K.getD q.J.length zX).xs.length) (fun i => (K.getD q.J.length zX).xs.length - i) 0 [(0, _), (2, _), (3, _), (4, _), (5, _)] [_, _] 3 [0, 1, 2] ⟨rfl, trivial⟩ ⟨rfl, rfl, rfl, rfl, rfl, trivial⟩ (pkR (zrow rfl)) rfl (Nat.zero_le _) (fun i hI => ?_)
    have hI : i ≤ (K.getD q.J.length zX).xs.length := hI
    refine Ex.seq ?_
    refine Ex.regSeq (ExL.pures 3 rfl ?_)
    refine ExL.lss rfl rfl rfl rfl rfl rfl (fun h4 => ?_) (fun h4 => ?_)
    · refine ExL.nil ?_
      refine Ex.cond_t rfl ?_
      refine Ex.skip ?_
      refine Ex.seq ?_
      refine Ex.block ?_
      have hvi := hfv q.J.length i hJK
      refine Ex.regSeq (ExL.pures 3 rfl ?_)
      refine ExL.free (fr_eql rfl rfl rfl) rfl rfl rfl ?_
      refine ExL.free (fr_indexAddr (sz := 1) rfl rfl rfl rfl rfl rfl (by omega)) rfl rfl rfl ?_
      refine ExL.op rfl (op_storeRowF (i := 0) rfl rfl rfl rfl rfl rfl rfl rfl (room eB_len (k := i) (by rw [part_len _ _ _ (by rw [reach_len]; omega), reach_len]; omega) (by simp) rfl) (List.cons_ne_nil _ _) rfl (rowQ_0 (by omega) (by simp) rfl) ?_)
      refine ExL.nil ?_
      refine Ex.regSeq (ExL.pures 1 rfl ?_)
      refine ExL.nil ?_
      refine Ex.block ?_
      have hii : i < (K.getD q.J.length zX).xs.length := by omega
      refine Ex.loopK (X := Nat) (fun j => [(7, .int .i64 j)]) (fun j => [.row (.slice (some ⟨r3, 0, none⟩) (K.getD q.J.length zX).xs.length (K.getD q.J.length zX).xs.length) 4 1 (K.getD q.J.length zX).xs.length ((rowQ lo hi (fun k => (K.getD k zX).xs) q.J.length i j).flatMap eB)]) (fun j => j ≤ (K.getD (q.J.length - 1) zX).xs.length) (fun j => (K.getD (q.J.length - 1) zX).xs.length - j) 0 [(0, _), (2, _), (3, _), (4, _), (5, _), (6, _)] [_, _] 3 [0, 1, 2] ⟨rfl, trivial⟩ ⟨rfl, rfl, rfl, rfl, rfl, rfl, trivial⟩ (rfl) rfl (Nat.zero_le _) (fun j hI => ?_)
      have hI : j ≤ (K.getD (q.J.length - 1) zX).xs.length := hI
      refine Ex.seq ?_
      refine Ex.regSeq (ExL.pures 1 rfl ?_)
      refine ExL.gtr rfl rfl rfl rfl rfl rfl (fun h5 => ?_) (fun h5 => ?_)
      · refine ExL.pures 5 rfl ?_
        refine ExL.free (fr_load rfl rfl rfl rfl (CellO.at 1 (Reads.old hpt) rfl)) rfl rfl rfl ?_
        refine ExL.pures 1 rfl ?_
        refine ExL.free (by first | exact fr_sub64 rfl rfl rfl (by omega) | exact fr_sub rfl rfl rfl) rfl rfl rfl ?_
        refine ExL.free (fr_indexAddrF (Reads.old hKr) encX_len rfl rfl rfl rfl rfl rfl (by omega)) rfl rfl rfl ?_
        refine ExL.free (fr_load rfl rfl rfl rfl (cellJ (i := (↑q.J.length - 1)) ((q.J.length - 1)) (Reads.old hKr) encX_len zX 0 rfl (by omega) (by omega) rfl)) rfl rfl rfl ?_
        refine ExL.pures 1 rfl ?_
        refine ExL.lss rfl rfl rfl rfl rfl rfl (fun h6 => ?_) (fun h6 => ?_)
        · refine ExL.pures 4 rfl ?_
          refine ExL.free (fr_indexAddr (sz := 1) rfl rfl rfl rfl rfl rfl (by omega)) rfl rfl rfl ?_
          refine ExL.free (fr_load rfl rfl rfl rfl (cellW (v := .bool (curR lo hi (fun k => (K.getD k zX).xs) q.J.length i j)) (i := ↑i) i (Reads.row (i := 0) rfl) eB_len false 0 rfl (by omega) (by rw [rowQ_len (by omega)]; omega) (rowQ_at (by omega)) rfl)) rfl rfl rfl ?_
          refine ExL.pures 2 rfl ?_
          refine ExL.nil ?_
          refine Ex.cond rfl (fun hb7 => ?_) (fun hb7 => ?_)
          · replace hb7 := nb_t hb7
            refine Ex.skip ?_
            refine Ex.seq ?_
            refine Ex.block ?_
            have hvj := hfv (q.J.length - 1) j (by omega)
            refine Ex.drawM rfl ?_
            refine ExD.take (i := 0) rfl (by kernel_rfl) (pureVal_ok rfl) ((List.Sublist.refl _)) rfl rfl rfl ?_
            refine ExD.take (i := 1) rfl (by kernel_rfl) (pureVal_ok rfl) ((List.Sublist.refl _)) rfl rfl rfl ?_
            refine ExD.take (i := 2) rfl (by kernel_rfl) (pureVal_ok rfl) ((List.Sublist.refl _)) rfl rfl rfl ?_
            refine ExD.take (i := 3) rfl (by kernel_rfl) (pureVal_ok rfl) ((List.Sublist.refl _)) rfl rfl rfl ?_
            refine ExD.take (i := 4) rfl (by kernel_rfl) (by first | exact fr_sub64 rfl rfl rfl (by omega) | exact fr_sub rfl rfl rfl) ((List.Sublist.refl _)) rfl rfl rfl ?_
            refine ExD.take (i := 5) rfl (by kernel_rfl) (fr_indexAddrR (sz := 1) 1 rfl rfl rfl rfl rfl rfl (by omega)) ((List.Sublist.refl _)) rfl rfl rfl ?_
            refine ExD.take (i := 6) rfl (by kernel_rfl) (fr_load rfl rfl rfl rfl (cellJ (i := (↑q.J.length - 1)) ((q.J.length - 1)) (Reads.row (i := 1) rfl) encX_len zX 0 rfl (by omega) (by omega) rfl)) ((List.Sublist.refl _)) rfl rfl rfl ?_
            refine ExD.take (i := 7) rfl (by kernel_rfl) (pureVal_ok rfl) ((List.Sublist.refl _)) rfl rfl rfl ?_
            refine ExD.take (i := 8) rfl (by kernel_rfl) (fr_indexAddrF (readsX (i := 2) rfl (k := (q.J.length - 1)) (by omega)) eB_len rfl rfl rfl rfl rfl rfl (by omega)) ((List.Sublist.refl _)) rfl rfl rfl ?_
            refine ExD.take (i := 9) rfl (by kernel_rfl) (fr_load rfl rfl rfl rfl (by first | exact cellN (readsX (i := 2) rfl (k := (q.J.length - 1)) (by omega)) eB_len false 0 rfl (by omega) rfl | exact cellF (readsX (i := 2) rfl (k := (q.J.length - 1)) (by omega)) eB_len false 0 rfl (by omega) rfl)) ((List.Sublist.refl _)) rfl rfl rfl ?_
            refine ExD.take (i := 10) rfl (by kernel_rfl) (pureVal_ok rfl) ((List.Sublist.refl _)) rfl rfl rfl ?_
            refine ExD.bool (d := 72) rfl (fun hb8 => ?_) (fun hb8 => ?_)
            · refine ExD.take (i := 11) rfl (by kernel_rfl) (pureVal_ok rfl) ((List.Sublist.refl _)) rfl rfl rfl ?_
              refine ExD.take (i := 12) rfl (by kernel_rfl) (pureVal_ok rfl) ((List.Sublist.refl _)) rfl rfl rfl ?_
              refine ExD.take (i := 13) rfl (by kernel_rfl) (pureVal_ok rfl) ((List.Sublist.refl _)) rfl rfl rfl ?_
              refine ExD.take (i := 14) rfl (by kernel_rfl) (pureVal_ok rfl) ((List.Sublist.refl _)) rfl rfl rfl ?_
              refine ExD.take (i := 15) rfl (by kernel_rfl) (fr_load rfl rfl rfl rfl (CellO.at 1 (Reads.old hpt) rfl)) ((List.Sublist.refl _)) rfl rfl rfl ?_
              refine ExD.take (i := 16) rfl (by kernel_rfl) (pureVal_ok rfl) ((List.Sublist.refl _)) rfl rfl rfl ?_
              refine ExD.take (i := 17) rfl (by kernel_rfl) (by first | exact fr_sub64 rfl rfl rfl (by omega) | exact fr_sub rfl rfl rfl) ((List.Sublist.refl _)) rfl rfl rfl ?_
              refine ExD.take (i := 18) rfl (by kernel_rfl) (fr_indexAddrF (Reads.old hKr) encX_len rfl rfl rfl rfl rfl rfl (by omega)) ((List.Sublist.refl _)) rfl rfl rfl ?_
              refine ExD.take (i := 19) rfl (by kernel_rfl) (fr_load rfl rfl rfl rfl (cellJ (i := (↑q.J.length - 1)) ((q.J.length - 1)) (Reads.old hKr) encX_len zX 0 rfl (by omega) (by omega) rfl)) ((List.Sublist.refl _)) rfl rfl rfl ?_
              refine ExD.take (i := 20) rfl (by kernel_rfl) (pureVal_ok rfl) ((List.Sublist.refl _)) rfl rfl rfl ?_
              refine ExD.take (i := 21) rfl (by kernel_rfl) (fr_indexAddrF (Reads.old (hKi (q.J.length - 1) (by omega))) (eI_len .i64) rfl rfl rfl rfl rfl rfl (by omega)) ((List.Sublist.refl _)) rfl rfl rfl ?_
              refine ExD.take (i := 22) rfl (by kernel_rfl) (fr_load rfl rfl rfl rfl (by first | exact cellN (Reads.old (hKi (q.J.length - 1) (by omega))) (eI_len .i64) 0 0 rfl (by omega) rfl | exact cellF (Reads.old (hKi (q.J.length - 1) (by omega))) (eI_len .i64) 0 0 rfl (by omega) rfl)) ((List.Sublist.refl _)) rfl rfl rfl ?_
              refine ExD.take (i := 23) rfl (by kernel_rfl) (pureVal_ok rfl) ((List.Sublist.refl _)) rfl rfl rfl ?_
              refine ExD.take (i := 24) rfl (by kernel_rfl) (pureVal_ok rfl) ((List.Sublist.refl _)) rfl rfl rfl ?_
              refine ExD.take (i := 25) rfl (by kernel_rfl) (pureVal_ok rfl) ((List.Sublist.refl _)) rfl rfl rfl ?_
              refine ExD.take (i := 26) rfl (by kernel_rfl) (fr_load rfl rfl rfl rfl (CellO.at 1 (Reads.old hpt) rfl)) ((List.Sublist.refl _)) rfl rfl rfl ?_
              refine ExD.take (i := 27) rfl (by kernel_rfl) (pureVal_ok rfl) ((List.Sublist.refl _)) rfl rfl rfl ?_
              refine ExD.take (i := 28) rfl (by kernel_rfl) (fr_indexAddrF (Reads.old hKr) encX_len rfl rfl rfl rfl rfl rfl (by omega)) ((List.Sublist.refl _)) rfl rfl rfl ?_
              refine ExD.take (i := 29) rfl (by kernel_rfl) (fr_load rfl rfl rfl rfl (cellJ (i := ↑q.J.length) (q.J.length) (Reads.old hKr) encX_len zX 0 rfl (by omega) (by omega) rfl)) ((List.Sublist.refl _)) rfl rfl rfl ?_
              refine ExD.take (i := 30) rfl (by kernel_rfl) (pureVal_ok rfl) ((List.Sublist.refl _)) rfl rfl rfl ?_
              refine ExD.take (i := 31) rfl (by kernel_rfl) (fr_indexAddrF (Reads.old (hKi q.J.length (by omega))) (eI_len .i64) rfl rfl rfl rfl rfl rfl (by omega)) ((List.Sublist.refl _)) rfl rfl rfl ?_
              refine ExD.take (i := 32) rfl (by kernel_rfl) (fr_load rfl rfl rfl rfl (by first | exact cellN (Reads.old (hKi q.J.length (by omega))) (eI_len .i64) 0 0 rfl (by omega) rfl | exact cellF (Reads.old (hKi q.J.length (by omega))) (eI_len .i64) 0 0 rfl (by omega) rfl)) ((List.Sublist.refl _)) rfl rfl rfl ?_
              refine ExD.op (i := 33) rfl (by kernel_rfl) rfl (op_ret rfl rfl rfl (c_follows _ _ lo hi (by omega) _ ((K.getD (q.J.length - 1) zX).xs.getD j 0) ((K.getD q.J.length zX).xs.getD i 0) (by omega) (by omega)) (Reads.get (Reads.old hpt)) rfl rfl (fun x9 hx9 => ⟨(List.Sublist.refl _), ?_⟩))
              refine ExD.take (i := 34) rfl (by kernel_rfl) (pureVal_ok rfl) ((List.Sublist.refl _)) rfl rfl rfl ?_
              refine ExD.take (i := 35) rfl (by kernel_rfl) (fr_indexAddr (sz := 1) rfl rfl rfl rfl rfl rfl (by omega)) ((List.Sublist.refl _)) rfl rfl rfl ?_
              refine ExD.last (i := 36) rfl (by kernel_rfl) (by kernel_rfl) rfl (op_storeRowF (i := 0) rfl rfl rfl rfl rfl rfl rfl rfl (room eB_len (k := i) (by rw [rowQ_len (by omega)]; omega) (by simp) rfl) (List.cons_ne_nil _ _) rfl (rowQ_s (by omega) (by simp) (by first | exact congrArg eB (cr_st (by assumption)) | exact congrArg eB (cr_sf hR (by omega) (by omega) (by assumption) (by assumption)) | exact congrArg eB (cr_sg hR (by omega) (by omega) (by assumption) (by assumption)) | (exfalso; exact cr_z (by assumption) (by omega)))) ?_)
              refine ExD.done (by kernel_rfl) ?_
              refine Ex.region (ExL.pures 1 rfl ?_)
              refine ExL.free (by first | exact fr_add64 rfl rfl rfl (by omega) | exact fr_add rfl rfl rfl) rfl rfl rfl ?_
              refine ExL.pures 1 rfl ?_
              refine ExL.nil ?_
              refine Hand.mk (j + 1) 3 [0, 1, 2] ⟨rfl, trivial⟩ ⟨rfl, rfl, rfl, rfl, rfl, rfl, trivial⟩ (rfl) rfl (by omega) (by omega)
            · refine ExD.pass (i := 11) rfl (by kernel_rfl) ((List.Sublist.refl _)) rfl rfl rfl ?_
              refine ExD.pass (i := 12) rfl (by kernel_rfl) ((List.Sublist.refl _)) rfl rfl rfl ?_
              refine ExD.pass (i := 13) rfl (by kernel_rfl) ((List.Sublist.refl _)) rfl rfl rfl ?_
              refine ExD.pass (i := 14) rfl (by kernel_rfl) ((List.Sublist.refl _)) rfl rfl rfl ?_
              refine ExD.pass (i := 15) rfl (by kernel_rfl) ((List.Sublist.refl _)) rfl rfl rfl ?_
              refine ExD.pass (i := 16) rfl (by kernel_rfl) ((List.Sublist.refl _)) rfl rfl rfl ?_
              refine ExD.pass (i := 17) rfl (by kernel_rfl) ((List.Sublist.refl _)) rfl rfl rfl ?_
              refine ExD.pass (i := 18) rfl (by kernel_rfl) ((List.Sublist.refl _)) rfl rfl rfl ?_
              refine ExD.pass (i := 19) rfl (by kernel_rfl) ((List.Sublist.refl _)) rfl rfl rfl ?_
              refine ExD.pass (i := 20) rfl (by kernel_rfl) ((List.Sublist.refl _)) rfl rfl rfl ?_
              refine ExD.pass (i := 21) rfl (by kernel_rfl) ((List.Sublist.refl _)) rfl rfl rfl ?_
              refine ExD.pass (i := 22) rfl (by kernel_rfl) ((List.Sublist.refl _)) rfl rfl rfl ?_
              refine ExD.pass (i := 23) rfl (by kernel_rfl) ((List.Sublist.refl _)) rfl rfl rfl ?_
              refine ExD.pass (i := 24) rfl (by kernel_rfl) ((List.Sublist.refl _)) rfl rfl rfl ?_
              refine ExD.pass (i := 25) rfl (by kernel_rfl) ((List.Sublist.refl _)) rfl rfl rfl ?_
              refine ExD.pass (i := 26) rfl (by kernel_rfl) ((List.Sublist.refl _)) rfl rfl rfl ?_
              refine ExD.pass (i := 27) rfl (by kernel_rfl) ((List.Sublist.refl _)) rfl rfl rfl ?_
              refine ExD.pass (i := 28) rfl (by kernel_rfl) ((List.Sublist.refl _)) rfl rfl rfl ?_
              refine ExD.pass (i := 29) rfl (by kernel_rfl) ((List.Sublist.refl _)) rfl rfl rfl ?_
              refine ExD.pass (i := 30) rfl (by kernel_rfl) ((List.Sublist.refl _)) rfl rfl rfl ?_
              refine ExD.pass (i := 31) rfl (by kernel_rfl) ((List.Sublist.refl _)) rfl rfl rfl ?_
              refine ExD.pass (i := 32) rfl (by kernel_rfl) ((List.Sublist.refl _)) rfl rfl rfl ?_
              refine ExD.pass (i := 33) rfl (by kernel_rfl) ((List.Sublist.refl _)) rfl rfl rfl ?_
              refine ExD.take (i := 34) rfl (by kernel_rfl) (pureVal_ok rfl) ((List.Sublist.refl _)) rfl rfl rfl ?_
              refine ExD.take (i := 35) rfl (by kernel_rfl) (fr_indexAddr (sz := 1) rfl rfl rfl rfl rfl rfl (by omega)) ((List.Sublist.refl _)) rfl rfl rfl ?_
              refine ExD.last (i := 36) rfl (by kernel_rfl) (by kernel_rfl) rfl (op_storeRowF (i := 0) rfl rfl rfl rfl rfl rfl rfl rfl (room eB_len (k := i) (by rw [rowQ_len (by omega)]; omega) (by simp) rfl) (List.cons_ne_nil _ _) rfl (rowQ_s (by omega) (by simp) (by first | exact congrArg eB (cr_st (by assumption)) | exact congrArg eB (cr_sf hR (by omega) (by omega) (by assumption) (by assumption)) | exact congrArg eB (cr_sg hR (by omega) (by omega) (by assumption) (by assumption)) | (exfalso; exact cr_z (by assumption) (by omega)))) ?_)
              refine ExD.done (by kernel_rfl) ?_
              refine Ex.region (ExL.pures 1 rfl ?_)
              refine ExL.free (by first | exact fr_add64 rfl rfl rfl (by omega) | exact fr_add rfl rfl rfl) rfl rfl rfl ?_
              refine ExL.pures 1 rfl ?_
              refine ExL.nil ?_
              refine Hand.mk (j + 1) 3 [0, 1, 2] ⟨rfl, trivial⟩ ⟨rfl, rfl, rfl, rfl, rfl, rfl, trivial⟩ (rfl) rfl (by omega) (by omega)
          · replace hb7 := nb_f hb7
            refine Ex.exit ?_
            rw [rowQ_fin hii (by first | exact cr_0 hii (by omega) | exact cr_len hii (by omega) | exact cr_t hii (by omega) (by assumption))]
            refine Ex.region (ExL.pures 1 rfl ?_)
            refine ExL.free (by first | exact fr_add64 rfl rfl rfl (by omega) | exact fr_add rfl rfl rfl) rfl rfl rfl ?_
            refine ExL.pures 1 rfl ?_
            refine ExL.nil ?_
            refine Hand.mk (i + 1) 3 [0, 1, 2] ⟨rfl, trivial⟩ ⟨rfl, rfl, rfl, rfl, rfl, trivial⟩ (rfl) rfl (by omega) (by omega)
        · refine ExL.pures 8 rfl ?_
          refine ExL.nil ?_
          refine Ex.cond_f rfl ?_
          refine Ex.exit ?_
          rw [rowQ_fin hii (by first | exact cr_0 hii (by omega) | exact cr_len hii (by omega) | exact cr_t hii (by omega) (by assumption))]
          refine Ex.region (ExL.pures 1 rfl ?_)
          refine ExL.free (by first | exact fr_add64 rfl rfl rfl (by omega) | exact fr_add rfl rfl rfl) rfl rfl rfl ?_
          refine ExL.pures 1 rfl ?_
          refine ExL.nil ?_
          refine Hand.mk (i + 1) 3 [0, 1, 2] ⟨rfl, trivial⟩ ⟨rfl, rfl, rfl, rfl, rfl, trivial⟩ (rfl) rfl (by omega) (by omega)
      · refine ExL.pures 20 rfl ?_
        refine ExL.nil ?_
        refine Ex.cond_f rfl ?_
        refine Ex.exit ?_
        rw [rowQ_fin hii (by first | exact cr_0 hii (by omega) | exact cr_len hii (by omega) | exact cr_t hii (by omega) (by assumption))]
        refine Ex.region (ExL.pures 1 rfl ?_)
        refine ExL.free (by first | exact fr_add64 rfl rfl rfl (by omega) | exact fr_add rfl rfl rfl) rfl rfl rfl ?_
        refine ExL.pures 1 rfl ?_
        refine ExL.nil ?_
        refine Hand.mk (i + 1) 3 [0, 1, 2] ⟨rfl, trivial⟩ ⟨rfl, rfl, rfl, rfl, rfl, trivial⟩ (rfl) rfl (by omega) (by omega)
    · refine ExL.nil ?_
      refine Ex.cond_f rfl ?_
      refine Ex.exit ?_
      obtain rfl : i = (K.getD q.J.length zX).xs.length := (by omega)
      rw [part_full rfl]
      refine Ex.region (ExL.pures 2 rfl ?_)
      refine ExL.op rfl (op_buildSlice (sz := 1) rfl rfl rfl rfl rfl rfl rfl rfl (by decide) rfl rfl rfl (fun r10 => ?_))
      refine ExL.op rfl (op_append (sz := 1) (bytes := 24) (i := 2) rfl rfl rfl rfl (Reads.row (i := 0) rfl) rfl (fun e => nomatch e) rfl rfl rfl rfl (by constructor <;> first | omega | (unfold maxLen; omega)) rfl rfl (fun A11 cA11 => ?_))
      refine ExL.pures 1 rfl ?_
      refine ExL.nil ?_
      refine Ex.conv (layX (reach_len lo hi (fun k => (K.getD k zX).xs) q.J.length) (perm_lt (i := 1) (j := 3) rfl rfl rfl)) ?_
      refine Ex.region (ExL.pures 1 rfl ?_)
      refine ExL.free (by first | exact fr_add64 rfl rfl rfl (by omega) | exact fr_add rfl rfl rfl) rfl rfl rfl ?_
      refine ExL.pures 1 rfl ?_
      refine ExL.nil ?_
      have hJn : (q.J ++ [(⟨some ⟨r3, 0, none⟩, (K.getD q.J.length zX).xs.length, (reachL lo hi (fun k => (K.getD k zX).xs) q.J.length)⟩ : VX Bool)]).length = q.J.length + 1 := by simp
      refine Hand.mk ((⟨A11, cA11, q.J ++ [(⟨some ⟨r3, 0, none⟩, (K.getD q.J.length zX).xs.length, (reachL lo hi (fun k => (K.getD k zX).xs) q.J.length)⟩ : VX Bool)]⟩ : GSt)) 3 [2, 0] ⟨(by first | rfl | (dsimp only; rw [hJn]; rfl)), agI (by dsimp only; rw [hJn]; rfl), trivial⟩ ⟨rfl, rfl, trivial⟩ (by first | rfl | (simp only [List.map_append, List.flatMap_append, hJn, encX, List.flatMap_cons, List.flatMap_nil, reach_len]; rfl)) rfl (⟨by dsimp only; omega, rk_snoc hR⟩) (by dsimp only; omega)
  · refine ExL.nil ?_
    refine Ex.cond_f rfl ?_
    refine Ex.exit ?_
    have hJn : q.J.length = K.length := by omega
    refine Ex.regSeq (ExL.pures 2 rfl ?_)
    refine ExL.nil ?_
    refine Ex.ret ?_
    refine RetQ.mk q rfl (.tmp rfl .nil) ((by rw [← hJn]; rfl)) [0, 1] (by rw [← hJn]; rfl) rfl (⟨hJn, hR⟩)
end Go.Proofs.Ytdfgbocmjgjclaa

/- What these functions of the program hand back, each proved by walking its operations. -/
set_option linter.unusedVariables false
set_option linter.unusedSimpArgs false
set_option maxRecDepth 4000
namespace Go.Proofs.Ytdfgbocmjgjclaa
open Go Go.Sx Go.RowKit Go.W Go.Proofs
attribute [local irreducible] Ex ExL ExD Op1 Free RetQ MutQ Reads CellO SegO LoadsAs
theorem e_9 : Enters Try.prog 9 := Enters.of Try.func9 rfl
theorem c_iStuck_f (s : List Int) (hu : Nums 255 s) (As : Option Addr) (cs : Nat) (hls : s.length ≤ maxLen) (L : List VPh) (hLk : ∀ k, k < L.length → OkPh (L.getD k zPh)) (bl cL : Nat) (hlL : L.length ≤ maxLen) (lo hi : Int) (hc0 : codeF s L lo hi lo ≠ 0) : Ret Try.prog 9 [.slice As s.length cs, .slice (some ⟨bl, 0, none⟩) L.length cL, .int .i64 lo, .int .i64 hi] (fun w => Rd w As (s.flatMap (eI .u8)) ∧ Rd w (some ⟨bl, 0, none⟩) (L.flatMap encPh)) (fun x : Unit => .tuple #[.int .i64 (stuckV s L lo hi).1, .int .i64 (stuckV s L lo hi).2]) (fun x => []) (fun x => True) := by
  refine Ret.of e_9 Try.func9 rfl Try.ntmps9 rfl rfl (fun w hpre => ?_)
  have hs := hpre.1.base
  have hLr := hpre.2.base
  have hm0 : maxLen = 9223372036854775807 := rfl
  refine Ex.regSeq (ExL.pures 2 rfl ?_)
  refine ExL.nil ?_
  refine Ex.regSeq (ExL.pures 5 rfl ?_)
  refine ExL.op rfl (op_ret rfl rfl rfl (c_filmOf_f s (by assumption) _ _ (by omega) L (by assumption) _ _ (by omega) lo hi lo hc0) (fun w hw => ⟨Reads.get (Reads.old hs) w hw, Reads.get (Reads.old hLr) w hw⟩) rfl rfl (fun x1 hx1 => ?_))
  refine ExL.pures 5 rfl ?_
  refine ExL.nil ?_
  refine Ex.seq ?_
  refine Ex.regSeq (ExL.pures 1 rfl ?_)
  refine ExL.neq rfl rfl rfl rfl rfl rfl (fun h2 => ?_) (fun h2 => ?_)
  · refine ExL.nil ?_
    refine Ex.cond_t rfl ?_
    refine Ex.regSeq (ExL.pures 3 rfl ?_)
    refine ExL.nil ?_
    refine Ex.ret ?_
    refine RetQ.mk () rfl (.tmp rfl (.tmp rfl .nil)) (t2 (vI (by first | (rw [sv_c hc0]; first | done | rfl))) (vI (by first | (rw [sv_c hc0]; first | done | rfl)))) [] (rfl) rfl (trivial)
  · refine ExL.nil ?_
    refine Ex.cond_f rfl ?_
    refine Ex.skip ?_
    refine Ex.seq ?_
    exfalso; omega
theorem c_iStuck_t (s : List Int) (hu : Nums 255 s) (As : Option Addr) (cs : Nat) (hls : s.length ≤ maxLen) (L : List VPh) (hLk : ∀ k, k < L.length → OkPh (L.getD k zPh)) (bl cL : Nat) (hlL : L.length ≤ maxLen) (lo hi : Int) (hc0 : codeF s L lo hi lo = 0) : Ret Try.prog 9 [.slice As s.length cs, .slice (some ⟨bl, 0, none⟩) L.length cL, .int .i64 lo, .int .i64 hi] (fun w => Rd w As (s.flatMap (eI .u8)) ∧ Rd w (some ⟨bl, 0, none⟩) (L.flatMap encPh)) (fun x : Unit => .tuple #[.int .i64 (stuckV s L lo hi).1, .int .i64 (stuckV s L lo hi).2]) (fun x => []) (fun x => True) := by
  refine Ret.of e_9 Try.func9 rfl Try.ntmps9 rfl rfl (fun w hpre => ?_)
  have hs := hpre.1.base
  have hLr := hpre.2.base
  have hm0 : maxLen = 9223372036854775807 := rfl
  have hLo : ∀ p ∈ L, OkPh p := fun p hp => by obtain ⟨i, hi, rfl⟩ := List.getElem_of_mem hp; have := hLk i hi; simpa [List.getD, hi] using this
  have hF := film hLo hc0
  have hl0 := hF.l0
  have hlh := hF.le
  have hh1 := hF.h1
  have hS := hF.st
  have hv := hF.vs
  have hn1 := hF.len
  refine Ex.regSeq (ExL.pures 2 rfl ?_)
  refine ExL.nil ?_
  refine Ex.regSeq (ExL.pures 5 rfl ?_)
  refine ExL.op rfl (op_ret rfl rfl rfl (c_filmOf_t s (by assumption) _ _ (by omega) L (by assumption) _ _ (by omega) lo hi lo hc0) (fun w hw => ⟨Reads.get (Reads.old hs) w hw, Reads.get (Reads.old hLr) w hw⟩) rfl rfl (fun x1 hx1 => ?_))
  have hfk := fk hF hx1
  have hkl := hfk.len
  have hfv := hfk.v
  have hfl := hfk.vl
  refine ExL.pures 5 rfl ?_
  refine ExL.nil ?_
  refine Ex.seq ?_
  refine Ex.regSeq (ExL.pures 1 rfl ?_)
  refine ExL.neq rfl rfl rfl rfl rfl rfl (fun h2 => ?_) (fun h2 => ?_)
  · refine ExL.nil ?_
    refine Ex.cond_t rfl ?_
    exfalso; omega
  · refine ExL.nil ?_
    refine Ex.cond_f rfl ?_
    refine Ex.skip ?_
    refine Ex.seq ?_
    refine Ex.regSeq (ExL.pures 1 rfl ?_)
    refine ExL.op rfl (op_ret rfl rfl rfl (c_ahead x1.K L.length hfk lo hi (by omega) x1.A x1.c _) (fun w hw => ⟨Reads.get (Reads.blk (i := 0) rfl) w hw, Reads.get (Reads.row (i := 1) rfl) w hw, fun k hk => Reads.get (readsX (i := 2) rfl hk) w hw⟩) rfl rfl (fun x3 hx3 => ?_))
    obtain ⟨hJl, hR⟩ := hx3
    have hjl : ∀ k, k < L.length → (x3.2.getD k zX).xs.length ≤ 400 := fun k hk => by rw [hR k (by omega), reach_len]; exact (hfl k hk).2
    refine ExL.pures 2 rfl ?_
    refine ExL.nil ?_
    refine Ex.block ?_
    refine Ex.loopK (X := Nat) (fun k => [(29, .int .i64 k)]) (fun k => []) (fun k => k ≤ x1.K.length ∧ ∀ i, i < k → (x3.2.getD i zX).xs.any id = true) (fun k => x1.K.length - k) 0 [(27, _), (28, _)] [_, _] 5 [0, 1] ⟨rfl, trivial⟩ ⟨rfl, rfl, trivial⟩ (rfl) rfl ⟨Nat.zero_le _, fun i hi => by omega⟩ (fun k hI => ?_)
    have hI : k ≤ x1.K.length ∧ ∀ i, i < k → (x3.2.getD i zX).xs.any id = true := hI
    obtain ⟨hk, hall⟩ := hI
    refine Ex.regSeq (ExL.pures 0 rfl ?_)
    refine ExL.lss rfl rfl rfl rfl rfl rfl (fun h4 => ?_) (fun h4 => ?_)
    · refine ExL.nil ?_
      refine Ex.seq ?_
      refine Ex.cond_t rfl ?_
      refine Ex.skip ?_
      refine Ex.seq ?_
      refine Ex.block ?_
      have hkL : k < L.length := by omega
      have hjk := hjl k hkL
      refine Ex.regSeq (ExL.pures 1 rfl ?_)
      refine ExL.free (fr_indexAddr (sz := 1) rfl rfl rfl rfl rfl rfl (by omega)) rfl rfl rfl ?_
      refine ExL.free (fr_load rfl rfl rfl rfl (by first | exact cellN (Reads.row (i := 0) rfl) encX_len zX 0 rfl (by omega) rfl | exact cellF (Reads.row (i := 0) rfl) encX_len zX 0 rfl (by omega) rfl)) rfl rfl rfl ?_
      refine ExL.pures 2 rfl ?_
      refine ExL.nil ?_
      refine Ex.regSeq (ExL.pures 1 rfl ?_)
      refine ExL.op rfl (op_ret rfl rfl rfl (c_blContains (x3.2.getD k zX).xs _ _ (by omega)) (Reads.get (readsX (i := 1) rfl (k := k) (by omega))) rfl rfl (fun x5 hx5 => ?_))
      refine ExL.pures 1 rfl ?_
      refine ExL.nil ?_
      refine Ex.cond rfl (fun hb6 => ?_) (fun hb6 => ?_)
      · replace hb6 := nb_t hb6
        refine Ex.regSeq (ExL.pures 3 rfl ?_)
        refine ExL.nil ?_
        refine Ex.ret ?_
        refine RetQ.mk () rfl (.tmp rfl (.tmp rfl .nil)) (t2 (vI (by first | (rw [svy (k := k) hx1 hc0 hR (by omega) (by omega) hall (by assumption)]; first | done | rfl) | (rw [svn (k := k) hx1 hc0 hR (by omega) (by omega) hall]; first | done | rfl))) (vI (by first | (rw [svy (k := k) hx1 hc0 hR (by omega) (by omega) hall (by assumption)]; first | done | rfl) | (rw [svn (k := k) hx1 hc0 hR (by omega) (by omega) hall]; first | done | rfl)))) [] (rfl) rfl (trivial)
      · replace hb6 := nb_f hb6
        refine Ex.skip ?_
        refine Ex.region (ExL.pures 0 rfl ?_)
        refine ExL.free (by first | exact fr_add64 rfl rfl rfl (by omega) | exact fr_add rfl rfl rfl) rfl rfl rfl ?_
        refine ExL.pures 1 rfl ?_
        refine ExL.nil ?_
        refine Hand.mk (k + 1) 2 [0, 1] ⟨rfl, trivial⟩ ⟨rfl, rfl, trivial⟩ (rfl) rfl (⟨by omega, all_snoc hall (by assumption)⟩) (by omega)
    · refine ExL.nil ?_
      refine Ex.seq ?_
      refine Ex.cond_f rfl ?_
      refine Ex.exit ?_
      refine Ex.regSeq (ExL.pures 2 rfl ?_)
      refine ExL.nil ?_
      refine Ex.ret ?_
      refine RetQ.mk () rfl (.tmp rfl (.tmp rfl .nil)) (t2 (vI (by first | (rw [svy (k := k) hx1 hc0 hR (by omega) (by omega) hall (by assumption)]; first | done | rfl) | (rw [svn (k := k) hx1 hc0 hR (by omega) (by omega) hall]; first | done | rfl))) (vI (by first | (rw [svy (k := k) hx1 hc0 hR (by omega) (by omega) hall (by assumption)]; first | done | rfl) | (rw [svn (k := k) hx1 hc0 hR (by omega) (by omega) hall]; first | done | rfl)))) [] (rfl) rfl (trivial)
theorem c_iStuck (s : List Int) (hu : Nums 255 s) (As : Option Addr) (cs : Nat) (hls : s.length ≤ maxLen) (L : List VPh) (hLk : ∀ k, k < L.length → OkPh (L.getD k zPh)) (bl cL : Nat) (hlL : L.length ≤ maxLen) (lo hi : Int) : Ret Try.prog 9 [.slice As s.length cs, .slice (some ⟨bl, 0, none⟩) L.length cL, .int .i64 lo, .int .i64 hi] (fun w => Rd w As (s.flatMap (eI .u8)) ∧ Rd w (some ⟨bl, 0, none⟩) (L.flatMap encPh)) (fun x : Unit => .tuple #[.int .i64 (stuckV s L lo hi).1, .int .i64 (stuckV s L lo hi).2]) (fun x => []) (fun x => True) := by
  by_cases h : codeF s L lo hi lo = 0
  · exact c_iStuck_t s hu As cs hls L hLk bl cL hlL lo hi  h
  · exact c_iStuck_f s hu As cs hls L hLk bl cL hlL lo hi  h
theorem e_10 : Enters Try.prog 10 := Enters.of Try.func10 rfl
theorem c_sStuck_f (s : List Int) (hu : Nums 255 s) (As : Option Addr) (cs : Nat) (hls : s.length ≤ maxLen) (L : List VPh) (hLk : ∀ k, k < L.length → OkPh (L.getD k zPh)) (bl cL : Nat) (hlL : L.length ≤ maxLen) (lo hi : Int) (hc0 : codeF s L lo hi lo ≠ 0) : Ret Try.prog 10 [.slice As s.length cs, .slice (some ⟨bl, 0, none⟩) L.length cL, .int .i64 lo, .int .i64 hi] (fun w => Rd w As (s.flatMap (eI .u8)) ∧ Rd w (some ⟨bl, 0, none⟩) (L.flatMap encPh)) (fun x : Unit => .tuple #[.int .i64 (stuckV s L lo hi).1, .int .i64 (stuckV s L lo hi).2]) (fun x => []) (fun x => True) := by
  refine Ret.of e_10 Try.func10 rfl Try.ntmps10 rfl rfl (fun w hpre => ?_)
  have hs := hpre.1.base
  have hLr := hpre.2.base
  have hm0 : maxLen = 9223372036854775807 := rfl
  refine Ex.regSeq (ExL.pures 2 rfl ?_)
  refine ExL.nil ?_
  refine Ex.regSeq (ExL.pures 4 rfl ?_)
  refine ExL.op rfl (op_ret rfl rfl rfl (c_l05Begin_f s (by assumption) _ _ (by omega) L (by assumption) _ _ (by omega) lo hi hc0) (fun w hw => ⟨Reads.get (Reads.old hs) w hw, Reads.get (Reads.old hLr) w hw⟩) rfl rfl (fun x1 hx1 => ?_))
  refine ExL.pures 5 rfl ?_
  refine ExL.nil ?_
  refine Ex.seq ?_
  refine Ex.regSeq (ExL.pures 1 rfl ?_)
  refine ExL.neq rfl rfl rfl rfl rfl rfl (fun h2 => ?_) (fun h2 => ?_)
  · refine ExL.nil ?_
    refine Ex.cond_t rfl ?_
    refine Ex.regSeq (ExL.pures 3 rfl ?_)
    refine ExL.nil ?_
    refine Ex.ret ?_
    refine RetQ.mk () rfl (.tmp rfl (.tmp rfl .nil)) (t2 (vI (by first | (rw [sv_c hc0]; first | done | rfl))) (vI (by first | (rw [sv_c hc0]; first | done | rfl)))) [] (rfl) rfl (trivial)
  · refine ExL.nil ?_
    refine Ex.cond_f rfl ?_
    refine Ex.skip ?_
    exfalso; omega
theorem c_sStuck_t (s : List Int) (hu : Nums 255 s) (As : Option Addr) (cs : Nat) (hls : s.length ≤ maxLen) (L : List VPh) (hLk : ∀ k, k < L.length → OkPh (L.getD k zPh)) (bl cL : Nat) (hlL : L.length ≤ maxLen) (lo hi : Int) (hc0 : codeF s L lo hi lo = 0) : Ret Try.prog 10 [.slice As s.length cs, .slice (some ⟨bl, 0, none⟩) L.length cL, .int .i64 lo, .int .i64 hi] (fun w => Rd w As (s.flatMap (eI .u8)) ∧ Rd w (some ⟨bl, 0, none⟩) (L.flatMap encPh)) (fun x : Unit => .tuple #[.int .i64 (stuckV s L lo hi).1, .int .i64 (stuckV s L lo hi).2]) (fun x => []) (fun x => True) := by
  refine Ret.of e_10 Try.func10 rfl Try.ntmps10 rfl rfl (fun w hpre => ?_)
  have hs := hpre.1.base
  have hLr := hpre.2.base
  have hm0 : maxLen = 9223372036854775807 := rfl
  have hLo : ∀ p ∈ L, OkPh p := fun p hp => by obtain ⟨i, hi, rfl⟩ := List.getElem_of_mem hp; have := hLk i hi; simpa [List.getD, hi] using this
  have hF := film hLo hc0
  have hl0 := hF.l0
  have hlh := hF.le
  have hh1 := hF.h1
  have hS := hF.st
  have hv := hF.vs
  have hn1 := hF.len
  refine Ex.regSeq (ExL.pures 2 rfl ?_)
  refine ExL.nil ?_
  refine Ex.regSeq (ExL.pures 4 rfl ?_)
  refine ExL.op rfl (op_ret rfl rfl rfl (c_l05Begin_t s (by assumption) _ _ (by omega) L (by assumption) _ _ (by omega) lo hi hc0) (fun w hw => ⟨Reads.get (Reads.old hs) w hw, Reads.get (Reads.old hLr) w hw⟩) rfl rfl (fun x1 hx1 => ?_))
  have hfk := fk hF hx1
  have hkl := hfk.len
  have hfv := hfk.v
  have hfl := hfk.vl
  refine ExL.pures 5 rfl ?_
  refine ExL.nil ?_
  refine Ex.seq ?_
  refine Ex.regSeq (ExL.pures 1 rfl ?_)
  refine ExL.neq rfl rfl rfl rfl rfl rfl (fun h2 => ?_) (fun h2 => ?_)
  · refine ExL.nil ?_
    refine Ex.cond_t rfl ?_
    exfalso; omega
  · refine ExL.nil ?_
    refine Ex.cond_f rfl ?_
    refine Ex.skip ?_
    refine Ex.regSeq (ExL.pures 1 rfl ?_)
    refine ExL.op rfl (op_ret rfl rfl rfl (c_reached _ x1.K L.length hfk lo hi (by omega) x1.A x1.c _) (fun w hw => ⟨Reads.get (Reads.blk (i := 0) rfl) w hw, Reads.get (Reads.row (i := 1) rfl) w hw, fun k hk => Reads.get (readsX (i := 2) rfl hk) w hw⟩) rfl rfl (fun x3 hx3 => ?_))
    obtain ⟨hJl, hR⟩ := hx3
    have hjl : ∀ k, k < L.length → (x3.J.getD k zX).xs.length ≤ 400 := fun k hk => by rw [hR k (by omega), reach_len]; exact (hfl k hk).2
    refine ExL.pures 1 rfl ?_
    refine ExL.nil ?_
    refine Ex.seq ?_
    refine Ex.regSeq (ExL.pures 1 rfl ?_)
    refine ExL.nil ?_
    refine Ex.block ?_
    refine Ex.loopK (X := Nat) (fun k => [(13, .int .i64 k)]) (fun k => []) (fun k => k ≤ x1.K.length ∧ ∀ i, i < k → (x3.J.getD i zX).xs.any id = true) (fun k => x1.K.length - k) 0 [(12, _)] [_, _] 5 [0, 1] ⟨rfl, trivial⟩ ⟨rfl, trivial⟩ (rfl) rfl ⟨Nat.zero_le _, fun i hi => by omega⟩ (fun k hI => ?_)
    have hI : k ≤ x1.K.length ∧ ∀ i, i < k → (x3.J.getD i zX).xs.any id = true := hI
    obtain ⟨hk, hall⟩ := hI
    refine Ex.seq ?_
    refine Ex.regSeq (ExL.pures 3 rfl ?_)
    refine ExL.lss rfl rfl rfl rfl rfl rfl (fun h4 => ?_) (fun h4 => ?_)
    · refine ExL.nil ?_
      refine Ex.cond_t rfl ?_
      refine Ex.skip ?_
      refine Ex.seq ?_
      refine Ex.block ?_
      have hkL : k < L.length := by omega
      have hjk := hjl k hkL
      refine Ex.regSeq (ExL.pures 2 rfl ?_)
      refine ExL.free (fr_indexAddrR (sz := 1) 0 rfl rfl rfl rfl rfl rfl (by omega)) rfl rfl rfl ?_
      refine ExL.free (fr_load rfl rfl rfl rfl (by first | exact cellN (Reads.row (i := 0) rfl) encX_len zX 0 rfl (by omega) rfl | exact cellF (Reads.row (i := 0) rfl) encX_len zX 0 rfl (by omega) rfl)) rfl rfl rfl ?_
      refine ExL.op rfl (op_ret rfl rfl rfl (c_l05Any (x3.J.getD k zX).xs _ _ (by omega)) (Reads.get (readsX (i := 1) rfl (k := k) (by omega))) rfl rfl (fun x5 hx5 => ?_))
      refine ExL.pures 1 rfl ?_
      refine ExL.nil ?_
      refine Ex.cond rfl (fun hb6 => ?_) (fun hb6 => ?_)
      · replace hb6 := nb_t hb6
        refine Ex.regSeq (ExL.pures 3 rfl ?_)
        refine ExL.nil ?_
        refine Ex.ret ?_
        refine RetQ.mk () rfl (.tmp rfl (.tmp rfl .nil)) (t2 (vI (by first | (rw [svy (k := k) hx1 hc0 hR (by omega) (by omega) hall (by assumption)]; first | done | rfl) | (rw [svn (k := k) hx1 hc0 hR (by omega) (by omega) hall]; first | done | rfl))) (vI (by first | (rw [svy (k := k) hx1 hc0 hR (by omega) (by omega) hall (by assumption)]; first | done | rfl) | (rw [svn (k := k) hx1 hc0 hR (by omega) (by omega) hall]; first | done | rfl)))) [] (rfl) rfl (trivial)
      · replace hb6 := nb_f hb6
        refine Ex.skip ?_
        refine Ex.region (ExL.pures 1 rfl ?_)
        refine ExL.free (by first | exact fr_add64 rfl rfl rfl (by omega) | exact fr_add rfl rfl rfl) rfl rfl rfl ?_
        refine ExL.pures 1 rfl ?_
        refine ExL.nil ?_
        refine Hand.mk (k + 1) 2 [0, 1] ⟨rfl, trivial⟩ ⟨rfl, trivial⟩ (rfl) rfl (⟨by omega, all_snoc hall (by assumption)⟩) (by omega)
    · refine ExL.nil ?_
      refine Ex.cond_f rfl ?_
      refine Ex.exit ?_
      refine Ex.regSeq (ExL.pures 2 rfl ?_)
      refine ExL.nil ?_
      refine Ex.ret ?_
      refine RetQ.mk () rfl (.tmp rfl (.tmp rfl .nil)) (t2 (vI (by first | (rw [svy (k := k) hx1 hc0 hR (by omega) (by omega) hall (by assumption)]; first | done | rfl) | (rw [svn (k := k) hx1 hc0 hR (by omega) (by omega) hall]; first | done | rfl))) (vI (by first | (rw [svy (k := k) hx1 hc0 hR (by omega) (by omega) hall (by assumption)]; first | done | rfl) | (rw [svn (k := k) hx1 hc0 hR (by omega) (by omega) hall]; first | done | rfl)))) [] (rfl) rfl (trivial)
theorem c_sStuck (s : List Int) (hu : Nums 255 s) (As : Option Addr) (cs : Nat) (hls : s.length ≤ maxLen) (L : List VPh) (hLk : ∀ k, k < L.length → OkPh (L.getD k zPh)) (bl cL : Nat) (hlL : L.length ≤ maxLen) (lo hi : Int) : Ret Try.prog 10 [.slice As s.length cs, .slice (some ⟨bl, 0, none⟩) L.length cL, .int .i64 lo, .int .i64 hi] (fun w => Rd w As (s.flatMap (eI .u8)) ∧ Rd w (some ⟨bl, 0, none⟩) (L.flatMap encPh)) (fun x : Unit => .tuple #[.int .i64 (stuckV s L lo hi).1, .int .i64 (stuckV s L lo hi).2]) (fun x => []) (fun x => True) := by
  by_cases h : codeF s L lo hi lo = 0
  · exact c_sStuck_t s hu As cs hls L hLk bl cL hlL lo hi  h
  · exact c_sStuck_f s hu As cs hls L hLk bl cL hlL lo hi  h
end Go.Proofs.Ytdfgbocmjgjclaa

/- What these functions of the program hand back, each proved by walking its operations. -/
set_option linter.unusedVariables false
set_option linter.unusedSimpArgs false
set_option maxRecDepth 4000
namespace Go.Proofs.Ytdfgbocmjgjclaa
open Go Go.Sx Go.RowKit Go.W Go.Proofs
attribute [local irreducible] Ex ExL ExD Op1 Free RetQ MutQ Reads CellO SegO LoadsAs
theorem e_7 : Enters Try.prog 7 := Enters.of Try.func7 rfl
theorem c_iWays_f (s : List Int) (hu : Nums 255 s) (As : Option Addr) (cs : Nat) (hls : s.length ≤ maxLen) (L : List VPh) (hLk : ∀ k, k < L.length → OkPh (L.getD k zPh)) (bl cL : Nat) (hlL : L.length ≤ maxLen) (lo hi : Int) (hc0 : codeF s L lo hi lo ≠ 0) : Ret Try.prog 7 [.slice As s.length cs, .slice (some ⟨bl, 0, none⟩) L.length cL, .int .i64 lo, .int .i64 hi] (fun w => Rd w As (s.flatMap (eI .u8)) ∧ Rd w (some ⟨bl, 0, none⟩) (L.flatMap encPh)) (fun x : Unit => .tuple #[.int .i64 (waysV s L lo hi).1, .int .i64 (waysV s L lo hi).2]) (fun x => []) (fun x => True) := by
  refine Ret.of e_7 Try.func7 rfl Try.ntmps7 rfl rfl (fun w hpre => ?_)
  have hs := hpre.1.base
  have hLr := hpre.2.base
  have hm0 : maxLen = 9223372036854775807 := rfl
  refine Ex.regSeq (ExL.pures 2 rfl ?_)
  refine ExL.nil ?_
  refine Ex.regSeq (ExL.pures 5 rfl ?_)
  refine ExL.op rfl (op_ret rfl rfl rfl (c_filmOf_f s (by assumption) _ _ (by omega) L (by assumption) _ _ (by omega) lo hi lo hc0) (fun w hw => ⟨Reads.get (Reads.old hs) w hw, Reads.get (Reads.old hLr) w hw⟩) rfl rfl (fun x1 hx1 => ?_))
  refine ExL.pures 5 rfl ?_
  refine ExL.nil ?_
  refine Ex.seq ?_
  refine Ex.regSeq (ExL.pures 1 rfl ?_)
  refine ExL.neq rfl rfl rfl rfl rfl rfl (fun h2 => ?_) (fun h2 => ?_)
  · refine ExL.nil ?_
    refine Ex.cond_t rfl ?_
    refine Ex.regSeq (ExL.pures 3 rfl ?_)
    refine ExL.nil ?_
    refine Ex.ret ?_
    refine RetQ.mk () rfl (.tmp rfl (.tmp rfl .nil)) (t2 (vI (by first | (rw [wv_c hc0]; first | done | rfl))) (vI (by first | (rw [wv_c hc0]; first | done | rfl)))) [] (rfl) rfl (trivial)
  · refine ExL.nil ?_
    refine Ex.cond_f rfl ?_
    refine Ex.skip ?_
    exfalso; omega
theorem c_iWays_t (s : List Int) (hu : Nums 255 s) (As : Option Addr) (cs : Nat) (hls : s.length ≤ maxLen) (L : List VPh) (hLk : ∀ k, k < L.length → OkPh (L.getD k zPh)) (bl cL : Nat) (hlL : L.length ≤ maxLen) (lo hi : Int) (hc0 : codeF s L lo hi lo = 0) : Ret Try.prog 7 [.slice As s.length cs, .slice (some ⟨bl, 0, none⟩) L.length cL, .int .i64 lo, .int .i64 hi] (fun w => Rd w As (s.flatMap (eI .u8)) ∧ Rd w (some ⟨bl, 0, none⟩) (L.flatMap encPh)) (fun x : Unit => .tuple #[.int .i64 (waysV s L lo hi).1, .int .i64 (waysV s L lo hi).2]) (fun x => []) (fun x => True) := by
  refine Ret.of e_7 Try.func7 rfl Try.ntmps7 rfl rfl (fun w hpre => ?_)
  have hs := hpre.1.base
  have hLr := hpre.2.base
  have hm0 : maxLen = 9223372036854775807 := rfl
  have hLo : ∀ p ∈ L, OkPh p := fun p hp => by obtain ⟨i, hi, rfl⟩ := List.getElem_of_mem hp; have := hLk i hi; simpa [List.getD, hi] using this
  have hF := film hLo hc0
  have hl0 := hF.l0
  have hlh := hF.le
  have hh1 := hF.h1
  have hS := hF.st
  have hv := hF.vs
  have hn1 := hF.len
  refine Ex.regSeq (ExL.pures 2 rfl ?_)
  refine ExL.nil ?_
  refine Ex.regSeq (ExL.pures 5 rfl ?_)
  refine ExL.op rfl (op_ret rfl rfl rfl (c_filmOf_t s (by assumption) _ _ (by omega) L (by assumption) _ _ (by omega) lo hi lo hc0) (fun w hw => ⟨Reads.get (Reads.old hs) w hw, Reads.get (Reads.old hLr) w hw⟩) rfl rfl (fun x1 hx1 => ?_))
  have hfk := fk hF hx1
  have hkl := hfk.len
  have hfv := hfk.v
  have hfl := hfk.vl
  refine ExL.pures 5 rfl ?_
  refine ExL.nil ?_
  refine Ex.seq ?_
  refine Ex.regSeq (ExL.pures 1 rfl ?_)
  refine ExL.neq rfl rfl rfl rfl rfl rfl (fun h2 => ?_) (fun h2 => ?_)
  · refine ExL.nil ?_
    refine Ex.cond_t rfl ?_
    exfalso; omega
  · refine ExL.nil ?_
    refine Ex.cond_f rfl ?_
    refine Ex.skip ?_
    refine Ex.regSeq (ExL.pures 0 rfl ?_)
    refine ExL.op rfl (op_buildSlice (sz := 1) rfl rfl rfl rfl rfl rfl rfl rfl (by decide) rfl rfl rfl (fun r3 => ?_))
    refine ExL.pures 2 rfl ?_
    refine ExL.nil ?_
    refine Ex.seq ?_
    refine Ex.regSeq (ExL.pures 3 rfl ?_)
    refine ExL.free (fr_load rfl rfl rfl rfl (CellO.blk (i := 1) rfl rfl)) rfl rfl rfl ?_
    refine ExL.pures 2 rfl ?_
    refine ExL.nil ?_
    refine Ex.block ?_
    refine Ex.loopA (fun k A c => [(13, .slice A ((befL lo hi (fun k => (x1.K.getD k zX).xs) k)).length c), (12, .int .i64 (totW lo hi (fun k => (x1.K.getD k zX).xs) k)), (39, .int .i64 k)]) (fun k A c => [.row (.slice A ((befL lo hi (fun k => (x1.K.getD k zX).xs) k)).length c) 2 1 ((befL lo hi (fun k => (x1.K.getD k zX).xs) k)).length (((befL lo hi (fun k => (x1.K.getD k zX).xs) k)).flatMap (eI .i64))]) (fun k => k ≤ x1.K.length ∧ ∀ i, i < k → wOver lo hi (fun k => (x1.K.getD k zX).xs) i = false) (fun k => x1.K.length - k) 0 ((some ⟨r3, 0, none⟩)) (0) [(10, _), (37, _), (38, _)] [_, _, _] 4 [0, 1, 2, 3] ⟨rfl, rfl, rfl, trivial⟩ ⟨rfl, rfl, rfl, trivial⟩ (rfl) rfl ⟨Nat.zero_le _, fun i hi => by omega⟩ (fun k A c hI => ?_)
    have hI : k ≤ x1.K.length ∧ ∀ i, i < k → wOver lo hi (fun k => (x1.K.getD k zX).xs) i = false := hI
    obtain ⟨hk, hall⟩ := hI
    refine Ex.regSeq (ExL.pures 0 rfl ?_)
    refine ExL.lss rfl rfl rfl rfl rfl rfl (fun h4 => ?_) (fun h4 => ?_)
    · refine ExL.nil ?_
      refine Ex.seq ?_
      refine Ex.cond_t rfl ?_
      refine Ex.skip ?_
      refine Ex.seq ?_
      refine Ex.block ?_
      have hkL : k < L.length := by omega
      have hvl := hfl k hkL
      have hvl1 := hfl (k - 1) (by omega)
      refine Ex.regSeq (ExL.pures 1 rfl ?_)
      refine ExL.free (fr_indexAddrR (sz := 1) 2 rfl rfl rfl rfl rfl rfl (by omega)) rfl rfl rfl ?_
      refine ExL.free (fr_load rfl rfl rfl rfl (by first | exact cellN (Reads.row (i := 2) rfl) encX_len zX 0 rfl (by omega) rfl | exact cellF (Reads.row (i := 2) rfl) encX_len zX 0 rfl (by omega) rfl)) rfl rfl rfl ?_
      refine ExL.pures 2 rfl ?_
      refine ExL.nil ?_
      refine Ex.regSeq (ExL.pures 2 rfl ?_)
      refine ExL.op rfl (op_makeSlice (sz := 8) rfl rfl rfl rfl rfl rfl rfl rfl (⟨by omega, by unfold maxLen; omega⟩) rfl rfl (fun r5 => ?_))
      refine ExL.pures 1 rfl ?_
      refine ExL.nil ?_
      refine Ex.regSeq (ExL.pures 1 rfl ?_)
      refine ExL.nil ?_
      refine Ex.seq ?_
      refine Ex.regSeq (ExL.pures 3 rfl ?_)
      refine ExL.nil ?_
      refine Ex.block ?_
      refine Ex.loopK (X := Nat) (fun i => [(12, .int .i64 (sumT (wayL lo hi (fun k => (x1.K.getD k zX).xs) k) i)), (49, .int .i64 i)]) (fun i => [.row (.slice (some ⟨r5, 0, none⟩) (x1.K.getD k zX).xs.length (x1.K.getD k zX).xs.length) 2 1 (x1.K.getD k zX).xs.length ((Sx.part 0 (wayL lo hi (fun k => (x1.K.getD k zX).xs) k) i).flatMap (eI .i64))]) (fun i => i ≤ (x1.K.getD k zX).xs.length ∧ sumT (wayL lo hi (fun k => (x1.K.getD k zX).xs) k) i ≤ 1000000000000000) (fun i => (x1.K.getD k zX).xs.length - i) 0 [(10, _), (13, _), (14, _), (16, _), (37, _), (38, _), (39, _), (47, _), (48, _)] [_, _, _, _] 5 [0, 1, 2, 3, 4] ⟨rfl, rfl, trivial⟩ ⟨rfl, rfl, rfl, rfl, rfl, rfl, rfl, rfl, rfl, trivial⟩ (pkR (zroW rfl)) rfl ⟨Nat.zero_le _, by simp [sumT]⟩ (fun i hI => ?_)
      have hI : i ≤ (x1.K.getD k zX).xs.length ∧ sumT (wayL lo hi (fun k => (x1.K.getD k zX).xs) k) i ≤ 1000000000000000 := hI
      have hiN := hI.1
      have hwb := way_bd (lo := lo) (hi := hi) (F := (fun k => (x1.K.getD k zX).xs)) hall i
      have hsum := hI.2
      refine Ex.regSeq (ExL.pures 0 rfl ?_)
      refine ExL.lss rfl rfl rfl rfl rfl rfl (fun h6 => ?_) (fun h6 => ?_)
      · refine ExL.nil ?_
        refine Ex.seq ?_
        refine Ex.cond_t rfl ?_
        refine Ex.skip ?_
        refine Ex.seq ?_
        refine Ex.block ?_
        have hii : i < (x1.K.getD k zX).xs.length := by omega
        have hvi := hfv k i hkL
        refine Ex.regSeq (ExL.pures 1 rfl ?_)
        refine ExL.free (fr_indexAddrF (readsX (i := 4) rfl (k := k) (by omega)) (eI_len .i64) rfl rfl rfl rfl rfl rfl (by omega)) rfl rfl rfl ?_
        refine ExL.free (fr_load rfl rfl rfl rfl (by first | exact cellN (readsX (i := 4) rfl (k := k) (by omega)) (eI_len .i64) 0 0 rfl (by omega) rfl | exact cellF (readsX (i := 4) rfl (k := k) (by omega)) (eI_len .i64) 0 0 rfl (by omega) rfl)) rfl rfl rfl ?_
        refine ExL.pures 2 rfl ?_
        refine ExL.nil ?_
        refine Ex.seq ?_
        refine Ex.regSeq (ExL.pures 1 rfl ?_)
        refine ExL.eql rfl rfl rfl rfl rfl rfl (fun h7 => ?_) (fun h7 => ?_)
        · refine ExL.nil ?_
          refine Ex.cond_t rfl ?_
          refine Ex.region (ExL.pures 2 rfl ?_)
          refine ExL.free (fr_indexAddr (sz := 1) rfl rfl rfl rfl rfl rfl (by omega)) rfl rfl rfl ?_
          refine ExL.op rfl (op_storeRowF (i := 0) rfl rfl rfl rfl rfl rfl rfl rfl (room (eI_len .i64) (k := i) (by rw [partW_len (by omega)]; omega) (by simp) rfl) (List.cons_ne_nil _ _) rfl (rowW_0y hii (by omega) (by simp) rfl) ?_)
          refine ExL.nil ?_
          refine Ex.seq ?_
          refine Ex.regSeq (ExL.pures 3 rfl ?_)
          refine ExL.nil ?_
          refine Ex.block ?_
          refine Ex.loopK (X := Nat) (fun j => [(61, .int .i64 j)]) (fun j => [.row (.slice (some ⟨r5, 0, none⟩) (x1.K.getD k zX).xs.length (x1.K.getD k zX).xs.length) 2 1 (x1.K.getD k zX).xs.length ((rowW lo hi (fun k => (x1.K.getD k zX).xs) k i j).flatMap (eI .i64))]) (fun j => j ≤ (befL lo hi (fun k => (x1.K.getD k zX).xs) k).length) (fun j => (befL lo hi (fun k => (x1.K.getD k zX).xs) k).length - j) 0 [(10, _), (12, _), (13, _), (14, _), (16, _), (17, _), (18, _), (37, _), (38, _), (39, _), (47, _), (48, _), (49, _), (59, _), (60, _)] [_, _, _, _] 5 [0, 1, 2, 3, 4] ⟨rfl, trivial⟩ ⟨rfl, rfl, rfl, rfl, rfl, rfl, rfl, rfl, rfl, rfl, rfl, rfl, rfl, rfl, rfl, trivial⟩ (by first | rfl | exact pkR (congrArg (fun z => List.flatMap (eI .i64) z) (rowW_0n hii (by omega)))) rfl (Nat.zero_le _) (fun j hI => ?_)
          have hI : j ≤ (befL lo hi (fun k => (x1.K.getD k zX).xs) k).length := hI
          refine Ex.regSeq (ExL.pures 0 rfl ?_)
          refine ExL.lss rfl rfl rfl rfl rfl rfl (fun h8 => ?_) (fun h8 => ?_)
          · refine ExL.nil ?_
            refine Ex.seq ?_
            refine Ex.cond_t rfl ?_
            refine Ex.skip ?_
            refine Ex.seq ?_
            refine Ex.block ?_
            have hjb : j < (befL lo hi (fun k => (x1.K.getD k zX).xs) k).length := by omega
            have hk0 := bef_pos hjb
            have hbl := bef_len (lo := lo) (hi := hi) (F := (fun k => (x1.K.getD k zX).xs)) hk0
            have hvj := hfv (k - 1) j (by omega)
            have hcb := curW_bd (i := i) (j := j) hall (fun _ => by omega)
            have hbb := bef_bd hall j
            refine Ex.regSeq (ExL.pures 1 rfl ?_)
            refine ExL.free (fr_indexAddrR (sz := 1) 1 rfl rfl rfl rfl rfl rfl (by omega)) rfl rfl rfl ?_
            refine ExL.free (fr_load rfl rfl rfl rfl (by first | exact cellN (Reads.row (i := 1) rfl) (eI_len .i64) 0 0 rfl (by omega) rfl | exact cellF (Reads.row (i := 1) rfl) (eI_len .i64) 0 0 rfl (by omega) rfl)) rfl rfl rfl ?_
            refine ExL.pures 2 rfl ?_
            refine ExL.nil ?_
            refine Ex.regSeq (ExL.pures 4 rfl ?_)
            refine ExL.free (fr_load rfl rfl rfl rfl (CellO.blk (i := 2) rfl rfl)) rfl rfl rfl ?_
            refine ExL.pures 1 rfl ?_
            refine ExL.free (by first | exact fr_sub64 rfl rfl rfl (by omega) | exact fr_sub rfl rfl rfl) rfl rfl rfl ?_
            refine ExL.free (fr_indexAddrR (sz := 1) 3 rfl rfl rfl rfl rfl rfl (by omega)) rfl rfl rfl ?_
            refine ExL.free (fr_load rfl rfl rfl rfl (cellJ (i := (↑k - 1)) ((k - 1)) (Reads.row (i := 3) rfl) encX_len zX 0 rfl (by omega) (by omega) rfl)) rfl rfl rfl ?_
            refine ExL.pures 1 rfl ?_
            refine ExL.free (fr_indexAddrF (readsX (i := 4) rfl (k := (k - 1)) (by omega)) (eI_len .i64) rfl rfl rfl rfl rfl rfl (by omega)) rfl rfl rfl ?_
            refine ExL.free (fr_load rfl rfl rfl rfl (by first | exact cellN (readsX (i := 4) rfl (k := (k - 1)) (by omega)) (eI_len .i64) 0 0 rfl (by omega) rfl | exact cellF (readsX (i := 4) rfl (k := (k - 1)) (by omega)) (eI_len .i64) 0 0 rfl (by omega) rfl)) rfl rfl rfl ?_
            refine ExL.pures 1 rfl ?_
            refine ExL.op rfl (op_ret rfl rfl rfl (c_goes _ lo hi (by omega) _ ((x1.K.getD (k - 1) zX).xs.getD j 0) ((x1.K.getD k zX).xs.getD i 0) (by omega) (by omega)) (Reads.get (Reads.blk (i := 2) rfl)) rfl rfl (fun x9 hx9 => ?_))
            refine ExL.nil ?_
            refine Ex.cond rfl (fun hb10 => ?_) (fun hb10 => ?_)
            · refine Ex.region (ExL.pures 2 rfl ?_)
              refine ExL.free (fr_indexAddr (sz := 1) rfl rfl rfl rfl rfl rfl (by omega)) rfl rfl rfl ?_
              refine ExL.free (fr_load rfl rfl rfl rfl (cellW (v := .int .i64 (curW lo hi (fun k => (x1.K.getD k zX).xs) k i j)) (i := ↑i) i (Reads.row (i := 0) rfl) (eI_len .i64) 0 0 rfl (by omega) (by rw [rowW_len (by omega)]; omega) (rowW_at hii) rfl)) rfl rfl rfl ?_
              refine ExL.pures 1 rfl ?_
              refine ExL.free (by first | exact fr_add64 rfl rfl rfl (by omega) | exact fr_add rfl rfl rfl) rfl rfl rfl ?_
              refine ExL.free (fr_indexAddr (sz := 1) rfl rfl rfl rfl rfl rfl (by omega)) rfl rfl rfl ?_
              refine ExL.op rfl (op_storeRowF (i := 0) rfl rfl rfl rfl rfl rfl rfl rfl (room (eI_len .i64) (k := i) (by rw [rowW_len (by omega)]; omega) (by simp) rfl) (List.cons_ne_nil _ _) rfl (rowW_s hii (by simp) (congrArg (eI .i64) (cw_y hk0 (by assumption)))) ?_)
              refine ExL.nil ?_
              refine Ex.region (ExL.pures 0 rfl ?_)
              refine ExL.free (by first | exact fr_add64 rfl rfl rfl (by omega) | exact fr_add rfl rfl rfl) rfl rfl rfl ?_
              refine ExL.pures 1 rfl ?_
              refine ExL.nil ?_
              refine Hand.mk (j + 1) 5 [0, 1, 2, 3, 4] ⟨rfl, trivial⟩ ⟨rfl, rfl, rfl, rfl, rfl, rfl, rfl, rfl, rfl, rfl, rfl, rfl, rfl, rfl, rfl, trivial⟩ (by first | rfl | exact pkR (congrArg (fun z => List.flatMap (eI .i64) z) (cw_n hk0 (by assumption)))) rfl (by omega) (by omega)
            · refine Ex.skip ?_
              refine Ex.region (ExL.pures 0 rfl ?_)
              refine ExL.free (by first | exact fr_add64 rfl rfl rfl (by omega) | exact fr_add rfl rfl rfl) rfl rfl rfl ?_
              refine ExL.pures 1 rfl ?_
              refine ExL.nil ?_
              refine Hand.mk (j + 1) 5 [0, 1, 2, 3, 4] ⟨rfl, trivial⟩ ⟨rfl, rfl, rfl, rfl, rfl, rfl, rfl, rfl, rfl, rfl, rfl, rfl, rfl, rfl, rfl, trivial⟩ (by first | rfl | exact pkR (congrArg (fun z => List.flatMap (eI .i64) z) (cw_n hk0 (by assumption)))) rfl (by omega) (by omega)
          · refine ExL.nil ?_
            refine Ex.seq ?_
            refine Ex.cond_f rfl ?_
            refine Ex.exit ?_
            rw [rowW_fin hii (by omega)]
            refine Ex.regSeq (ExL.pures 3 rfl ?_)
            refine ExL.free (fr_indexAddr (sz := 1) rfl rfl rfl rfl rfl rfl (by omega)) rfl rfl rfl ?_
            refine ExL.free (fr_load rfl rfl rfl rfl (cellW (v := .int .i64 ((wayL lo hi (fun k => (x1.K.getD k zX).xs) k).getD i 0)) (i := ↑i) i (Reads.row (i := 0) rfl) (eI_len .i64) 0 0 rfl (by omega) (by rw [partW_len (by omega)]; omega) (partW_at hii) rfl)) rfl rfl rfl ?_
            refine ExL.free (by first | exact fr_add64 rfl rfl rfl (by omega) | exact fr_add rfl rfl rfl) rfl rfl rfl ?_
            refine ExL.pures 1 rfl ?_
            refine ExL.nil ?_
            refine Ex.regSeq (ExL.pures 1 rfl ?_)
            refine ExL.gtr rfl rfl rfl rfl rfl rfl (fun h11 => ?_) (fun h11 => ?_)
            · refine ExL.nil ?_
              refine Ex.cond_t rfl ?_
              refine Ex.regSeq (ExL.pures 2 rfl ?_)
              refine ExL.nil ?_
              refine Ex.ret ?_
              refine RetQ.mk () rfl (.tmp rfl (.tmp rfl .nil)) (t2 (vI (by first | (rw [wvk_3 (k := k) (i := i + 1) hx1 hc0 (by omega) (by omega) (by rw [sumT]; omega)]; first | done | rfl) | (rw [wvk_0 (k := k) hx1 hc0 (by omega) (by omega) hall]; first | done | rfl))) (vI (by first | (rw [wvk_3 (k := k) (i := i + 1) hx1 hc0 (by omega) (by omega) (by rw [sumT]; omega)]; first | done | rfl) | (rw [wvk_0 (k := k) hx1 hc0 (by omega) (by omega) hall]; first | done | rfl)))) [] (rfl) rfl (trivial)
            · refine ExL.nil ?_
              refine Ex.cond_f rfl ?_
              refine Ex.skip ?_
              refine Ex.region (ExL.pures 0 rfl ?_)
              refine ExL.free (by first | exact fr_add64 rfl rfl rfl (by omega) | exact fr_add rfl rfl rfl) rfl rfl rfl ?_
              refine ExL.pures 1 rfl ?_
              refine ExL.nil ?_
              refine Hand.mk (i + 1) 5 [0, 1, 2, 3, 4] ⟨rfl, rfl, trivial⟩ ⟨rfl, rfl, rfl, rfl, rfl, rfl, rfl, rfl, rfl, trivial⟩ (rfl) rfl (⟨by omega, by rw [sumT]; omega⟩) (by omega)
        · refine ExL.nil ?_
          refine Ex.cond_f rfl ?_
          refine Ex.skip ?_
          refine Ex.seq ?_
          refine Ex.regSeq (ExL.pures 3 rfl ?_)
          refine ExL.nil ?_
          refine Ex.block ?_
          refine Ex.loopK (X := Nat) (fun j => [(61, .int .i64 j)]) (fun j => [.row (.slice (some ⟨r5, 0, none⟩) (x1.K.getD k zX).xs.length (x1.K.getD k zX).xs.length) 2 1 (x1.K.getD k zX).xs.length ((rowW lo hi (fun k => (x1.K.getD k zX).xs) k i j).flatMap (eI .i64))]) (fun j => j ≤ (befL lo hi (fun k => (x1.K.getD k zX).xs) k).length) (fun j => (befL lo hi (fun k => (x1.K.getD k zX).xs) k).length - j) 0 [(10, _), (12, _), (13, _), (14, _), (16, _), (17, _), (18, _), (37, _), (38, _), (39, _), (47, _), (48, _), (49, _), (59, _), (60, _)] [_, _, _, _] 5 [0, 1, 2, 3, 4] ⟨rfl, trivial⟩ ⟨rfl, rfl, rfl, rfl, rfl, rfl, rfl, rfl, rfl, rfl, rfl, rfl, rfl, rfl, rfl, trivial⟩ (by first | rfl | exact pkR (congrArg (fun z => List.flatMap (eI .i64) z) (rowW_0n hii (by omega)))) rfl (Nat.zero_le _) (fun j hI => ?_)
          have hI : j ≤ (befL lo hi (fun k => (x1.K.getD k zX).xs) k).length := hI
          refine Ex.regSeq (ExL.pures 0 rfl ?_)
          refine ExL.lss rfl rfl rfl rfl rfl rfl (fun h12 => ?_) (fun h12 => ?_)
          · refine ExL.nil ?_
            refine Ex.seq ?_
            refine Ex.cond_t rfl ?_
            refine Ex.skip ?_
            refine Ex.seq ?_
            refine Ex.block ?_
            have hjb : j < (befL lo hi (fun k => (x1.K.getD k zX).xs) k).length := by omega
            have hk0 := bef_pos hjb
            have hbl := bef_len (lo := lo) (hi := hi) (F := (fun k => (x1.K.getD k zX).xs)) hk0
            have hvj := hfv (k - 1) j (by omega)
            have hcb := curW_bd (i := i) (j := j) hall (fun _ => by omega)
            have hbb := bef_bd hall j
            refine Ex.regSeq (ExL.pures 1 rfl ?_)
            refine ExL.free (fr_indexAddrR (sz := 1) 1 rfl rfl rfl rfl rfl rfl (by omega)) rfl rfl rfl ?_
            refine ExL.free (fr_load rfl rfl rfl rfl (by first | exact cellN (Reads.row (i := 1) rfl) (eI_len .i64) 0 0 rfl (by omega) rfl | exact cellF (Reads.row (i := 1) rfl) (eI_len .i64) 0 0 rfl (by omega) rfl)) rfl rfl rfl ?_
            refine ExL.pures 2 rfl ?_
            refine ExL.nil ?_
            refine Ex.regSeq (ExL.pures 4 rfl ?_)
            refine ExL.free (fr_load rfl rfl rfl rfl (CellO.blk (i := 2) rfl rfl)) rfl rfl rfl ?_
            refine ExL.pures 1 rfl ?_
            refine ExL.free (by first | exact fr_sub64 rfl rfl rfl (by omega) | exact fr_sub rfl rfl rfl) rfl rfl rfl ?_
            refine ExL.free (fr_indexAddrR (sz := 1) 3 rfl rfl rfl rfl rfl rfl (by omega)) rfl rfl rfl ?_
            refine ExL.free (fr_load rfl rfl rfl rfl (cellJ (i := (↑k - 1)) ((k - 1)) (Reads.row (i := 3) rfl) encX_len zX 0 rfl (by omega) (by omega) rfl)) rfl rfl rfl ?_
            refine ExL.pures 1 rfl ?_
            refine ExL.free (fr_indexAddrF (readsX (i := 4) rfl (k := (k - 1)) (by omega)) (eI_len .i64) rfl rfl rfl rfl rfl rfl (by omega)) rfl rfl rfl ?_
            refine ExL.free (fr_load rfl rfl rfl rfl (by first | exact cellN (readsX (i := 4) rfl (k := (k - 1)) (by omega)) (eI_len .i64) 0 0 rfl (by omega) rfl | exact cellF (readsX (i := 4) rfl (k := (k - 1)) (by omega)) (eI_len .i64) 0 0 rfl (by omega) rfl)) rfl rfl rfl ?_
            refine ExL.pures 1 rfl ?_
            refine ExL.op rfl (op_ret rfl rfl rfl (c_goes _ lo hi (by omega) _ ((x1.K.getD (k - 1) zX).xs.getD j 0) ((x1.K.getD k zX).xs.getD i 0) (by omega) (by omega)) (Reads.get (Reads.blk (i := 2) rfl)) rfl rfl (fun x13 hx13 => ?_))
            refine ExL.nil ?_
            refine Ex.cond rfl (fun hb14 => ?_) (fun hb14 => ?_)
            · refine Ex.region (ExL.pures 2 rfl ?_)
              refine ExL.free (fr_indexAddr (sz := 1) rfl rfl rfl rfl rfl rfl (by omega)) rfl rfl rfl ?_
              refine ExL.free (fr_load rfl rfl rfl rfl (cellW (v := .int .i64 (curW lo hi (fun k => (x1.K.getD k zX).xs) k i j)) (i := ↑i) i (Reads.row (i := 0) rfl) (eI_len .i64) 0 0 rfl (by omega) (by rw [rowW_len (by omega)]; omega) (rowW_at hii) rfl)) rfl rfl rfl ?_
              refine ExL.pures 1 rfl ?_
              refine ExL.free (by first | exact fr_add64 rfl rfl rfl (by omega) | exact fr_add rfl rfl rfl) rfl rfl rfl ?_
              refine ExL.free (fr_indexAddr (sz := 1) rfl rfl rfl rfl rfl rfl (by omega)) rfl rfl rfl ?_
              refine ExL.op rfl (op_storeRowF (i := 0) rfl rfl rfl rfl rfl rfl rfl rfl (room (eI_len .i64) (k := i) (by rw [rowW_len (by omega)]; omega) (by simp) rfl) (List.cons_ne_nil _ _) rfl (rowW_s hii (by simp) (congrArg (eI .i64) (cw_y hk0 (by assumption)))) ?_)
              refine ExL.nil ?_
              refine Ex.region (ExL.pures 0 rfl ?_)
              refine ExL.free (by first | exact fr_add64 rfl rfl rfl (by omega) | exact fr_add rfl rfl rfl) rfl rfl rfl ?_
              refine ExL.pures 1 rfl ?_
              refine ExL.nil ?_
              refine Hand.mk (j + 1) 5 [0, 1, 2, 3, 4] ⟨rfl, trivial⟩ ⟨rfl, rfl, rfl, rfl, rfl, rfl, rfl, rfl, rfl, rfl, rfl, rfl, rfl, rfl, rfl, trivial⟩ (by first | rfl | exact pkR (congrArg (fun z => List.flatMap (eI .i64) z) (cw_n hk0 (by assumption)))) rfl (by omega) (by omega)
            · refine Ex.skip ?_
              refine Ex.region (ExL.pures 0 rfl ?_)
              refine ExL.free (by first | exact fr_add64 rfl rfl rfl (by omega) | exact fr_add rfl rfl rfl) rfl rfl rfl ?_
              refine ExL.pures 1 rfl ?_
              refine ExL.nil ?_
              refine Hand.mk (j + 1) 5 [0, 1, 2, 3, 4] ⟨rfl, trivial⟩ ⟨rfl, rfl, rfl, rfl, rfl, rfl, rfl, rfl, rfl, rfl, rfl, rfl, rfl, rfl, rfl, trivial⟩ (by first | rfl | exact pkR (congrArg (fun z => List.flatMap (eI .i64) z) (cw_n hk0 (by assumption)))) rfl (by omega) (by omega)
          · refine ExL.nil ?_
            refine Ex.seq ?_
            refine Ex.cond_f rfl ?_
            refine Ex.exit ?_
            rw [rowW_fin hii (by omega)]
            refine Ex.regSeq (ExL.pures 3 rfl ?_)
            refine ExL.free (fr_indexAddr (sz := 1) rfl rfl rfl rfl rfl rfl (by omega)) rfl rfl rfl ?_
            refine ExL.free (fr_load rfl rfl rfl rfl (cellW (v := .int .i64 ((wayL lo hi (fun k => (x1.K.getD k zX).xs) k).getD i 0)) (i := ↑i) i (Reads.row (i := 0) rfl) (eI_len .i64) 0 0 rfl (by omega) (by rw [partW_len (by omega)]; omega) (partW_at hii) rfl)) rfl rfl rfl ?_
            refine ExL.free (by first | exact fr_add64 rfl rfl rfl (by omega) | exact fr_add rfl rfl rfl) rfl rfl rfl ?_
            refine ExL.pures 1 rfl ?_
            refine ExL.nil ?_
            refine Ex.regSeq (ExL.pures 1 rfl ?_)
            refine ExL.gtr rfl rfl rfl rfl rfl rfl (fun h15 => ?_) (fun h15 => ?_)
            · refine ExL.nil ?_
              refine Ex.cond_t rfl ?_
              refine Ex.regSeq (ExL.pures 2 rfl ?_)
              refine ExL.nil ?_
              refine Ex.ret ?_
              refine RetQ.mk () rfl (.tmp rfl (.tmp rfl .nil)) (t2 (vI (by first | (rw [wvk_3 (k := k) (i := i + 1) hx1 hc0 (by omega) (by omega) (by rw [sumT]; omega)]; first | done | rfl) | (rw [wvk_0 (k := k) hx1 hc0 (by omega) (by omega) hall]; first | done | rfl))) (vI (by first | (rw [wvk_3 (k := k) (i := i + 1) hx1 hc0 (by omega) (by omega) (by rw [sumT]; omega)]; first | done | rfl) | (rw [wvk_0 (k := k) hx1 hc0 (by omega) (by omega) hall]; first | done | rfl)))) [] (rfl) rfl (trivial)
            · refine ExL.nil ?_
              refine Ex.cond_f rfl ?_
              refine Ex.skip ?_
              refine Ex.region (ExL.pures 0 rfl ?_)
              refine ExL.free (by first | exact fr_add64 rfl rfl rfl (by omega) | exact fr_add rfl rfl rfl) rfl rfl rfl ?_
              refine ExL.pures 1 rfl ?_
              refine ExL.nil ?_
              refine Hand.mk (i + 1) 5 [0, 1, 2, 3, 4] ⟨rfl, rfl, trivial⟩ ⟨rfl, rfl, rfl, rfl, rfl, rfl, rfl, rfl, rfl, trivial⟩ (rfl) rfl (⟨by omega, by rw [sumT]; omega⟩) (by omega)
      · refine ExL.nil ?_
        refine Ex.seq ?_
        refine Ex.cond_f rfl ?_
        refine Ex.exit ?_
        obtain rfl : i = (x1.K.getD k zX).xs.length := (by omega)
        rw [partW_full rfl]
        refine Ex.region (ExL.pures 2 rfl ?_)
        refine ExL.nil ?_
        refine Ex.region (ExL.pures 0 rfl ?_)
        refine ExL.free (by first | exact fr_add64 rfl rfl rfl (by omega) | exact fr_add rfl rfl rfl) rfl rfl rfl ?_
        refine ExL.pures 1 rfl ?_
        refine ExL.nil ?_
        refine HandA.of (k + 1) ((some ⟨r5, 0, none⟩)) ((x1.K.getD k zX).xs.length) 5 [0, 2, 3, 4] ⟨(by rw [bef_s]; rfl), rfl, rfl, trivial⟩ ⟨rfl, rfl, rfl, trivial⟩ (by first | rfl | (rw [bef_s]; rfl)) rfl (⟨by omega, all_snoc hall (over_no (by omega))⟩) (by omega)
    · refine ExL.nil ?_
      refine Ex.seq ?_
      refine Ex.cond_f rfl ?_
      refine Ex.exit ?_
      refine Ex.regSeq (ExL.pures 3 rfl ?_)
      refine ExL.nil ?_
      refine Ex.ret ?_
      refine RetQ.mk () rfl (.tmp rfl (.tmp rfl .nil)) (t2 (vI (by first | (rw [wvk_3 (k := k) (i := i + 1) hx1 hc0 (by omega) (by omega) (by rw [sumT]; omega)]; first | done | rfl) | (rw [wvk_0 (k := k) hx1 hc0 (by omega) (by omega) hall]; first | done | rfl))) (vI (by first | (rw [wvk_3 (k := k) (i := i + 1) hx1 hc0 (by omega) (by omega) (by rw [sumT]; omega)]; first | done | rfl) | (rw [wvk_0 (k := k) hx1 hc0 (by omega) (by omega) hall]; first | done | rfl)))) [] (rfl) rfl (trivial)
theorem c_iWays (s : List Int) (hu : Nums 255 s) (As : Option Addr) (cs : Nat) (hls : s.length ≤ maxLen) (L : List VPh) (hLk : ∀ k, k < L.length → OkPh (L.getD k zPh)) (bl cL : Nat) (hlL : L.length ≤ maxLen) (lo hi : Int) : Ret Try.prog 7 [.slice As s.length cs, .slice (some ⟨bl, 0, none⟩) L.length cL, .int .i64 lo, .int .i64 hi] (fun w => Rd w As (s.flatMap (eI .u8)) ∧ Rd w (some ⟨bl, 0, none⟩) (L.flatMap encPh)) (fun x : Unit => .tuple #[.int .i64 (waysV s L lo hi).1, .int .i64 (waysV s L lo hi).2]) (fun x => []) (fun x => True) := by
  by_cases h : codeF s L lo hi lo = 0
  · exact c_iWays_t s hu As cs hls L hLk bl cL hlL lo hi  h
  · exact c_iWays_f s hu As cs hls L hLk bl cL hlL lo hi  h
theorem e_8 : Enters Try.prog 8 := Enters.of Try.func8 rfl
theorem c_sWays_f (s : List Int) (hu : Nums 255 s) (As : Option Addr) (cs : Nat) (hls : s.length ≤ maxLen) (L : List VPh) (hLk : ∀ k, k < L.length → OkPh (L.getD k zPh)) (bl cL : Nat) (hlL : L.length ≤ maxLen) (lo hi : Int) (hc0 : codeF s L lo hi lo ≠ 0) : Ret Try.prog 8 [.slice As s.length cs, .slice (some ⟨bl, 0, none⟩) L.length cL, .int .i64 lo, .int .i64 hi] (fun w => Rd w As (s.flatMap (eI .u8)) ∧ Rd w (some ⟨bl, 0, none⟩) (L.flatMap encPh)) (fun x : Unit => .tuple #[.int .i64 (waysV s L lo hi).1, .int .i64 (waysV s L lo hi).2]) (fun x => []) (fun x => True) := by
  refine Ret.of e_8 Try.func8 rfl Try.ntmps8 rfl rfl (fun w hpre => ?_)
  have hs := hpre.1.base
  have hLr := hpre.2.base
  have hm0 : maxLen = 9223372036854775807 := rfl
  refine Ex.regSeq (ExL.pures 2 rfl ?_)
  refine ExL.nil ?_
  refine Ex.regSeq (ExL.pures 4 rfl ?_)
  refine ExL.op rfl (op_ret rfl rfl rfl (c_l05Begin_f s (by assumption) _ _ (by omega) L (by assumption) _ _ (by omega) lo hi hc0) (fun w hw => ⟨Reads.get (Reads.old hs) w hw, Reads.get (Reads.old hLr) w hw⟩) rfl rfl (fun x1 hx1 => ?_))
  refine ExL.pures 5 rfl ?_
  refine ExL.nil ?_
  refine Ex.seq ?_
  refine Ex.regSeq (ExL.pures 1 rfl ?_)
  refine ExL.neq rfl rfl rfl rfl rfl rfl (fun h2 => ?_) (fun h2 => ?_)
  · refine ExL.nil ?_
    refine Ex.cond_t rfl ?_
    refine Ex.regSeq (ExL.pures 3 rfl ?_)
    refine ExL.nil ?_
    refine Ex.ret ?_
    refine RetQ.mk () rfl (.tmp rfl (.tmp rfl .nil)) (t2 (vI (by first | (rw [wv_c hc0]; first | done | rfl))) (vI (by first | (rw [wv_c hc0]; first | done | rfl)))) [] (rfl) rfl (trivial)
  · refine ExL.nil ?_
    refine Ex.cond_f rfl ?_
    refine Ex.skip ?_
    exfalso; omega
theorem c_sWays_t (s : List Int) (hu : Nums 255 s) (As : Option Addr) (cs : Nat) (hls : s.length ≤ maxLen) (L : List VPh) (hLk : ∀ k, k < L.length → OkPh (L.getD k zPh)) (bl cL : Nat) (hlL : L.length ≤ maxLen) (lo hi : Int) (hc0 : codeF s L lo hi lo = 0) : Ret Try.prog 8 [.slice As s.length cs, .slice (some ⟨bl, 0, none⟩) L.length cL, .int .i64 lo, .int .i64 hi] (fun w => Rd w As (s.flatMap (eI .u8)) ∧ Rd w (some ⟨bl, 0, none⟩) (L.flatMap encPh)) (fun x : Unit => .tuple #[.int .i64 (waysV s L lo hi).1, .int .i64 (waysV s L lo hi).2]) (fun x => []) (fun x => True) := by
  refine Ret.of e_8 Try.func8 rfl Try.ntmps8 rfl rfl (fun w hpre => ?_)
  have hs := hpre.1.base
  have hLr := hpre.2.base
  have hm0 : maxLen = 9223372036854775807 := rfl
  have hLo : ∀ p ∈ L, OkPh p := fun p hp => by obtain ⟨i, hi, rfl⟩ := List.getElem_of_mem hp; have := hLk i hi; simpa [List.getD, hi] using this
  have hF := film hLo hc0
  have hl0 := hF.l0
  have hlh := hF.le
  have hh1 := hF.h1
  have hS := hF.st
  have hv := hF.vs
  have hn1 := hF.len
  refine Ex.regSeq (ExL.pures 2 rfl ?_)
  refine ExL.nil ?_
  refine Ex.regSeq (ExL.pures 4 rfl ?_)
  refine ExL.op rfl (op_ret rfl rfl rfl (c_l05Begin_t s (by assumption) _ _ (by omega) L (by assumption) _ _ (by omega) lo hi hc0) (fun w hw => ⟨Reads.get (Reads.old hs) w hw, Reads.get (Reads.old hLr) w hw⟩) rfl rfl (fun x1 hx1 => ?_))
  have hfk := fk hF hx1
  have hkl := hfk.len
  have hfv := hfk.v
  have hfl := hfk.vl
  refine ExL.pures 5 rfl ?_
  refine ExL.nil ?_
  refine Ex.seq ?_
  refine Ex.regSeq (ExL.pures 1 rfl ?_)
  refine ExL.neq rfl rfl rfl rfl rfl rfl (fun h2 => ?_) (fun h2 => ?_)
  · refine ExL.nil ?_
    refine Ex.cond_t rfl ?_
    exfalso; omega
  · refine ExL.nil ?_
    refine Ex.cond_f rfl ?_
    refine Ex.skip ?_
    refine Ex.regSeq (ExL.pures 0 rfl ?_)
    refine ExL.op rfl (op_buildSlice (sz := 1) rfl rfl rfl rfl rfl rfl rfl rfl (by decide) rfl rfl rfl (fun r3 => ?_))
    refine ExL.pures 1 rfl ?_
    refine ExL.nil ?_
    refine Ex.regSeq (ExL.pures 1 rfl ?_)
    refine ExL.nil ?_
    refine Ex.seq ?_
    refine Ex.regSeq (ExL.pures 1 rfl ?_)
    refine ExL.nil ?_
    refine Ex.block ?_
    refine Ex.loopA (fun k A c => [(12, .slice A ((befL lo hi (fun k => (x1.K.getD k zX).xs) k)).length c), (13, .int .i64 (totW lo hi (fun k => (x1.K.getD k zX).xs) k)), (14, .int .i64 k)]) (fun k A c => [.row (.slice A ((befL lo hi (fun k => (x1.K.getD k zX).xs) k)).length c) 2 1 ((befL lo hi (fun k => (x1.K.getD k zX).xs) k)).length (((befL lo hi (fun k => (x1.K.getD k zX).xs) k)).flatMap (eI .i64))]) (fun k => k ≤ x1.K.length ∧ ∀ i, i < k → wOver lo hi (fun k => (x1.K.getD k zX).xs) i = false) (fun k => x1.K.length - k) 0 ((some ⟨r3, 0, none⟩)) (0) [(10, _)] [_, _, _] 4 [0, 1, 2, 3] ⟨rfl, rfl, rfl, trivial⟩ ⟨rfl, trivial⟩ (rfl) rfl ⟨Nat.zero_le _, fun i hi => by omega⟩ (fun k A c hI => ?_)
    have hI : k ≤ x1.K.length ∧ ∀ i, i < k → wOver lo hi (fun k => (x1.K.getD k zX).xs) i = false := hI
    obtain ⟨hk, hall⟩ := hI
    refine Ex.seq ?_
    refine Ex.regSeq (ExL.pures 4 rfl ?_)
    refine ExL.free (fr_load rfl rfl rfl rfl (CellO.blk (i := 1) rfl rfl)) rfl rfl rfl ?_
    refine ExL.pures 1 rfl ?_
    refine ExL.lss rfl rfl rfl rfl rfl rfl (fun h4 => ?_) (fun h4 => ?_)
    · refine ExL.nil ?_
      refine Ex.cond_t rfl ?_
      refine Ex.skip ?_
      refine Ex.seq ?_
      refine Ex.block ?_
      have hkL : k < L.length := by omega
      have hvl := hfl k hkL
      have hvl1 := hfl (k - 1) (by omega)
      refine Ex.regSeq (ExL.pures 3 rfl ?_)
      refine ExL.free (fr_load rfl rfl rfl rfl (CellO.blk (i := 1) rfl rfl)) rfl rfl rfl ?_
      refine ExL.pures 1 rfl ?_
      refine ExL.free (fr_indexAddrR (sz := 1) 2 rfl rfl rfl rfl rfl rfl (by omega)) rfl rfl rfl ?_
      refine ExL.free (fr_load rfl rfl rfl rfl (by first | exact cellN (Reads.row (i := 2) rfl) encX_len zX 0 rfl (by omega) rfl | exact cellF (Reads.row (i := 2) rfl) encX_len zX 0 rfl (by omega) rfl)) rfl rfl rfl ?_
      refine ExL.pures 1 rfl ?_
      refine ExL.op rfl (op_makeSlice (sz := 8) rfl rfl rfl rfl rfl rfl rfl rfl (⟨by omega, by unfold maxLen; omega⟩) rfl rfl (fun r5 => ?_))
      refine ExL.pures 1 rfl ?_
      refine ExL.nil ?_
      refine Ex.regSeq (ExL.pures 1 rfl ?_)
      refine ExL.nil ?_
      refine Ex.seq ?_
      refine Ex.regSeq (ExL.pures 1 rfl ?_)
      refine ExL.nil ?_
      refine Ex.block ?_
      refine Ex.loopK (X := Nat) (fun i => [(13, .int .i64 (sumT (wayL lo hi (fun k => (x1.K.getD k zX).xs) k) i)), (16, .int .i64 i)]) (fun i => [.row (.slice (some ⟨r5, 0, none⟩) (x1.K.getD k zX).xs.length (x1.K.getD k zX).xs.length) 2 1 (x1.K.getD k zX).xs.length ((Sx.part 0 (wayL lo hi (fun k => (x1.K.getD k zX).xs) k) i).flatMap (eI .i64))]) (fun i => i ≤ (x1.K.getD k zX).xs.length) (fun i => (x1.K.getD k zX).xs.length - i) 0 [(10, _), (12, _), (14, _), (15, _)] [_, _, _, _] 5 [0, 1, 2, 3, 4] ⟨rfl, rfl, trivial⟩ ⟨rfl, rfl, rfl, rfl, trivial⟩ (pkR (zroW rfl)) rfl (Nat.zero_le _) (fun i hI => ?_)
      have hI : i ≤ (x1.K.getD k zX).xs.length := hI
      have hiN := hI
      have hwb := way_bd (lo := lo) (hi := hi) (F := (fun k => (x1.K.getD k zX).xs)) hall i
      refine Ex.seq ?_
      refine Ex.regSeq (ExL.pures 3 rfl ?_)
      refine ExL.lss rfl rfl rfl rfl rfl rfl (fun h6 => ?_) (fun h6 => ?_)
      · refine ExL.nil ?_
        refine Ex.cond_t rfl ?_
        refine Ex.skip ?_
        refine Ex.seq ?_
        refine Ex.block ?_
        have hii : i < (x1.K.getD k zX).xs.length := by omega
        have hvi := hfv k i hkL
        refine Ex.seq ?_
        refine Ex.regSeq (ExL.pures 1 rfl ?_)
        refine ExL.eql rfl rfl rfl rfl rfl rfl (fun h7 => ?_) (fun h7 => ?_)
        · refine ExL.nil ?_
          refine Ex.cond_t rfl ?_
          refine Ex.region (ExL.pures 2 rfl ?_)
          refine ExL.free (fr_indexAddr (sz := 1) rfl rfl rfl rfl rfl rfl (by omega)) rfl rfl rfl ?_
          refine ExL.op rfl (op_storeRowF (i := 0) rfl rfl rfl rfl rfl rfl rfl rfl (room (eI_len .i64) (k := i) (by rw [partW_len (by omega)]; omega) (by simp) rfl) (List.cons_ne_nil _ _) rfl (rowW_0y hii (by omega) (by simp) rfl) ?_)
          refine ExL.nil ?_
          refine Ex.seq ?_
          refine Ex.regSeq (ExL.pures 1 rfl ?_)
          refine ExL.nil ?_
          refine Ex.block ?_
          refine Ex.loopK (X := Nat) (fun j => [(17, .int .i64 j)]) (fun j => [.row (.slice (some ⟨r5, 0, none⟩) (x1.K.getD k zX).xs.length (x1.K.getD k zX).xs.length) 2 1 (x1.K.getD k zX).xs.length ((rowW lo hi (fun k => (x1.K.getD k zX).xs) k i j).flatMap (eI .i64))]) (fun j => j ≤ (befL lo hi (fun k => (x1.K.getD k zX).xs) k).length) (fun j => (befL lo hi (fun k => (x1.K.getD k zX).xs) k).length - j) 0 [(10, _), (12, _), (13, _), (14, _), (15, _), (16, _)] [_, _, _, _] 5 [0, 1, 2, 3, 4] ⟨rfl, trivial⟩ ⟨rfl, rfl, rfl, rfl, rfl, rfl, trivial⟩ (by first | rfl | exact pkR (congrArg (fun z => List.flatMap (eI .i64) z) (rowW_0n hii (by omega)))) rfl (Nat.zero_le _) (fun j hI => ?_)
          have hI : j ≤ (befL lo hi (fun k => (x1.K.getD k zX).xs) k).length := hI
          refine Ex.seq ?_
          refine Ex.regSeq (ExL.pures 1 rfl ?_)
          refine ExL.gtr rfl rfl rfl rfl rfl rfl (fun h8 => ?_) (fun h8 => ?_)
          · refine ExL.pures 4 rfl ?_
            refine ExL.lss rfl rfl rfl rfl rfl rfl (fun h9 => ?_) (fun h9 => ?_)
            · refine ExL.pures 1 rfl ?_
              refine ExL.nil ?_
              refine Ex.cond_t rfl ?_
              refine Ex.skip ?_
              refine Ex.seq ?_
              refine Ex.block ?_
              have hjb : j < (befL lo hi (fun k => (x1.K.getD k zX).xs) k).length := by omega
              have hk0 := bef_pos hjb
              have hbl := bef_len (lo := lo) (hi := hi) (F := (fun k => (x1.K.getD k zX).xs)) hk0
              have hvj := hfv (k - 1) j (by omega)
              have hcb := curW_bd (i := i) (j := j) hall (fun _ => by omega)
              have hbb := bef_bd hall j
              refine Ex.drawSeqM rfl ?_
              refine ExD.take (i := 0) rfl (by kernel_rfl) (pureVal_ok rfl) ((List.Sublist.refl _)) rfl rfl rfl ?_
              refine ExD.take (i := 1) rfl (by kernel_rfl) (pureVal_ok rfl) ((List.Sublist.refl _)) rfl rfl rfl ?_
              refine ExD.take (i := 2) rfl (by kernel_rfl) (pureVal_ok rfl) ((List.Sublist.refl _)) rfl rfl rfl ?_
              refine ExD.take (i := 3) rfl (by kernel_rfl) (pureVal_ok rfl) ((List.Sublist.refl _)) rfl rfl rfl ?_
              refine ExD.take (i := 4) rfl (by kernel_rfl) (fr_load rfl rfl rfl rfl (CellO.blk (i := 2) rfl rfl)) ((List.Sublist.refl _)) rfl rfl rfl ?_
              refine ExD.take (i := 5) rfl (by kernel_rfl) (pureVal_ok rfl) ((List.Sublist.refl _)) rfl rfl rfl ?_
              refine ExD.take (i := 6) rfl (by kernel_rfl) (by first | exact fr_sub64 rfl rfl rfl (by omega) | exact fr_sub rfl rfl rfl) ((List.Sublist.refl _)) rfl rfl rfl ?_
              refine ExD.take (i := 7) rfl (by kernel_rfl) (fr_indexAddrR (sz := 1) 3 rfl rfl rfl rfl rfl rfl (by omega)) ((List.Sublist.refl _)) rfl rfl rfl ?_
              refine ExD.take (i := 8) rfl (by kernel_rfl) (fr_load rfl rfl rfl rfl (cellJ (i := (↑k - 1)) ((k - 1)) (Reads.row (i := 3) rfl) encX_len zX 0 rfl (by omega) (by omega) rfl)) ((List.Sublist.refl _)) rfl rfl rfl ?_
              refine ExD.take (i := 9) rfl (by kernel_rfl) (pureVal_ok rfl) ((List.Sublist.refl _)) rfl rfl rfl ?_
              refine ExD.take (i := 10) rfl (by kernel_rfl) (fr_indexAddrF (readsX (i := 4) rfl (k := (k - 1)) (by omega)) (eI_len .i64) rfl rfl rfl rfl rfl rfl (by omega)) ((List.Sublist.refl _)) rfl rfl rfl ?_
              refine ExD.take (i := 11) rfl (by kernel_rfl) (fr_load rfl rfl rfl rfl (by first | exact cellN (readsX (i := 4) rfl (k := (k - 1)) (by omega)) (eI_len .i64) 0 0 rfl (by omega) rfl | exact cellF (readsX (i := 4) rfl (k := (k - 1)) (by omega)) (eI_len .i64) 0 0 rfl (by omega) rfl)) ((List.Sublist.refl _)) rfl rfl rfl ?_
              refine ExD.take (i := 12) rfl (by kernel_rfl) (pureVal_ok rfl) ((List.Sublist.refl _)) rfl rfl rfl ?_
              refine ExD.take (i := 13) rfl (by kernel_rfl) (pureVal_ok rfl) ((List.Sublist.refl _)) rfl rfl rfl ?_
              refine ExD.take (i := 14) rfl (by kernel_rfl) (pureVal_ok rfl) ((List.Sublist.refl _)) rfl rfl rfl ?_
              refine ExD.take (i := 15) rfl (by kernel_rfl) (fr_load rfl rfl rfl rfl (CellO.blk (i := 2) rfl rfl)) ((List.Sublist.refl _)) rfl rfl rfl ?_
              refine ExD.take (i := 16) rfl (by kernel_rfl) (pureVal_ok rfl) ((List.Sublist.refl _)) rfl rfl rfl ?_
              refine ExD.take (i := 17) rfl (by kernel_rfl) (fr_indexAddrR (sz := 1) 3 rfl rfl rfl rfl rfl rfl (by omega)) ((List.Sublist.refl _)) rfl rfl rfl ?_
              refine ExD.take (i := 18) rfl (by kernel_rfl) (fr_load rfl rfl rfl rfl (by first | exact cellN (Reads.row (i := 3) rfl) encX_len zX 0 rfl (by omega) rfl | exact cellF (Reads.row (i := 3) rfl) encX_len zX 0 rfl (by omega) rfl)) ((List.Sublist.refl _)) rfl rfl rfl ?_
              refine ExD.take (i := 19) rfl (by kernel_rfl) (pureVal_ok rfl) ((List.Sublist.refl _)) rfl rfl rfl ?_
              refine ExD.take (i := 20) rfl (by kernel_rfl) (fr_indexAddrF (readsX (i := 4) rfl (k := k) (by omega)) (eI_len .i64) rfl rfl rfl rfl rfl rfl (by omega)) ((List.Sublist.refl _)) rfl rfl rfl ?_
              refine ExD.take (i := 21) rfl (by kernel_rfl) (fr_load rfl rfl rfl rfl (by first | exact cellN (readsX (i := 4) rfl (k := k) (by omega)) (eI_len .i64) 0 0 rfl (by omega) rfl | exact cellF (readsX (i := 4) rfl (k := k) (by omega)) (eI_len .i64) 0 0 rfl (by omega) rfl)) ((List.Sublist.refl _)) rfl rfl rfl ?_
              refine ExD.op (i := 22) rfl (by kernel_rfl) rfl (op_ret rfl rfl rfl (c_follows _ _ lo hi (by omega) _ ((x1.K.getD (k - 1) zX).xs.getD j 0) ((x1.K.getD k zX).xs.getD i 0) (by omega) (by omega)) (Reads.get (Reads.blk (i := 2) rfl)) rfl rfl (fun x10 hx10 => ⟨(List.Sublist.refl _), ?_⟩))
              refine ExD.done (by kernel_rfl) ?_
              refine Ex.cond rfl (fun hb11 => ?_) (fun hb11 => ?_)
              · refine Ex.drawM rfl ?_
                refine ExD.take (i := 0) rfl (by kernel_rfl) (pureVal_ok rfl) ((List.Sublist.refl _)) rfl rfl rfl ?_
                refine ExD.take (i := 1) rfl (by kernel_rfl) (pureVal_ok rfl) ((List.Sublist.refl _)) rfl rfl rfl ?_
                refine ExD.take (i := 2) rfl (by kernel_rfl) (fr_indexAddr (sz := 1) rfl rfl rfl rfl rfl rfl (by omega)) ((List.Sublist.refl _)) rfl rfl rfl ?_
                refine ExD.take (i := 3) rfl (by kernel_rfl) (fr_load rfl rfl rfl rfl (cellW (v := .int .i64 (curW lo hi (fun k => (x1.K.getD k zX).xs) k i j)) (i := ↑i) i (Reads.row (i := 0) rfl) (eI_len .i64) 0 0 rfl (by omega) (by rw [rowW_len (by omega)]; omega) (rowW_at hii) rfl)) ((List.Sublist.refl _)) rfl rfl rfl ?_
                refine ExD.take (i := 4) rfl (by kernel_rfl) (pureVal_ok rfl) ((List.Sublist.refl _)) rfl rfl rfl ?_
                refine ExD.take (i := 5) rfl (by kernel_rfl) (pureVal_ok rfl) ((List.Sublist.refl _)) rfl rfl rfl ?_
                refine ExD.take (i := 6) rfl (by kernel_rfl) (fr_indexAddrR (sz := 1) 1 rfl rfl rfl rfl rfl rfl (by omega)) ((List.Sublist.refl _)) rfl rfl rfl ?_
                refine ExD.take (i := 7) rfl (by kernel_rfl) (fr_load rfl rfl rfl rfl (by first | exact cellN (Reads.row (i := 1) rfl) (eI_len .i64) 0 0 rfl (by omega) rfl | exact cellF (Reads.row (i := 1) rfl) (eI_len .i64) 0 0 rfl (by omega) rfl)) ((List.Sublist.refl _)) rfl rfl rfl ?_
                refine ExD.take (i := 8) rfl (by kernel_rfl) (by first | exact fr_add64 rfl rfl rfl (by omega) | exact fr_add rfl rfl rfl) ((List.Sublist.refl _)) rfl rfl rfl ?_
                refine ExD.take (i := 9) rfl (by kernel_rfl) (fr_indexAddr (sz := 1) rfl rfl rfl rfl rfl rfl (by omega)) ((List.Sublist.refl _)) rfl rfl rfl ?_
                refine ExD.last (i := 10) rfl (by kernel_rfl) (by kernel_rfl) rfl (op_storeRowF (i := 0) rfl rfl rfl rfl rfl rfl rfl rfl (room (eI_len .i64) (k := i) (by rw [rowW_len (by omega)]; omega) (by simp) rfl) (List.cons_ne_nil _ _) rfl (rowW_s hii (by simp) (congrArg (eI .i64) (cw_y hk0 (by assumption)))) ?_)
                refine ExD.done (by kernel_rfl) ?_
                refine Ex.region (ExL.pures 1 rfl ?_)
                refine ExL.free (by first | exact fr_add64 rfl rfl rfl (by omega) | exact fr_add rfl rfl rfl) rfl rfl rfl ?_
                refine ExL.pures 1 rfl ?_
                refine ExL.nil ?_
                refine Hand.mk (j + 1) 5 [0, 1, 2, 3, 4] ⟨rfl, trivial⟩ ⟨rfl, rfl, rfl, rfl, rfl, rfl, trivial⟩ (by first | rfl | exact pkR (congrArg (fun z => List.flatMap (eI .i64) z) (cw_n hk0 (by assumption)))) rfl (by omega) (by omega)
              · refine Ex.skip ?_
                refine Ex.region (ExL.pures 1 rfl ?_)
                refine ExL.free (by first | exact fr_add64 rfl rfl rfl (by omega) | exact fr_add rfl rfl rfl) rfl rfl rfl ?_
                refine ExL.pures 1 rfl ?_
                refine ExL.nil ?_
                refine Hand.mk (j + 1) 5 [0, 1, 2, 3, 4] ⟨rfl, trivial⟩ ⟨rfl, rfl, rfl, rfl, rfl, rfl, trivial⟩ (by first | rfl | exact pkR (congrArg (fun z => List.flatMap (eI .i64) z) (cw_n hk0 (by assumption)))) rfl (by omega) (by omega)
            · refine ExL.pures 1 rfl ?_
              refine ExL.nil ?_
              refine Ex.cond_f rfl ?_
              refine Ex.exit ?_
              rw [rowW_fin hii (by omega)]
              refine Ex.region (ExL.pures 3 rfl ?_)
              refine ExL.free (fr_indexAddr (sz := 1) rfl rfl rfl rfl rfl rfl (by omega)) rfl rfl rfl ?_
              refine ExL.free (fr_load rfl rfl rfl rfl (cellW (v := .int .i64 ((wayL lo hi (fun k => (x1.K.getD k zX).xs) k).getD i 0)) (i := ↑i) i (Reads.row (i := 0) rfl) (eI_len .i64) 0 0 rfl (by omega) (by rw [partW_len (by omega)]; omega) (partW_at hii) rfl)) rfl rfl rfl ?_
              refine ExL.free (by first | exact fr_add64 rfl rfl rfl (by omega) | exact fr_add rfl rfl rfl) rfl rfl rfl ?_
              refine ExL.pures 1 rfl ?_
              refine ExL.nil ?_
              refine Ex.region (ExL.pures 1 rfl ?_)
              refine ExL.free (by first | exact fr_add64 rfl rfl rfl (by omega) | exact fr_add rfl rfl rfl) rfl rfl rfl ?_
              refine ExL.pures 1 rfl ?_
              refine ExL.nil ?_
              refine Hand.mk (i + 1) 5 [0, 1, 2, 3, 4] ⟨rfl, rfl, trivial⟩ ⟨rfl, rfl, rfl, rfl, trivial⟩ (rfl) rfl (by omega) (by omega)
          · refine ExL.pures 6 rfl ?_
            refine ExL.nil ?_
            refine Ex.cond_f rfl ?_
            refine Ex.exit ?_
            rw [rowW_fin hii (by omega)]
            refine Ex.region (ExL.pures 3 rfl ?_)
            refine ExL.free (fr_indexAddr (sz := 1) rfl rfl rfl rfl rfl rfl (by omega)) rfl rfl rfl ?_
            refine ExL.free (fr_load rfl rfl rfl rfl (cellW (v := .int .i64 ((wayL lo hi (fun k => (x1.K.getD k zX).xs) k).getD i 0)) (i := ↑i) i (Reads.row (i := 0) rfl) (eI_len .i64) 0 0 rfl (by omega) (by rw [partW_len (by omega)]; omega) (partW_at hii) rfl)) rfl rfl rfl ?_
            refine ExL.free (by first | exact fr_add64 rfl rfl rfl (by omega) | exact fr_add rfl rfl rfl) rfl rfl rfl ?_
            refine ExL.pures 1 rfl ?_
            refine ExL.nil ?_
            refine Ex.region (ExL.pures 1 rfl ?_)
            refine ExL.free (by first | exact fr_add64 rfl rfl rfl (by omega) | exact fr_add rfl rfl rfl) rfl rfl rfl ?_
            refine ExL.pures 1 rfl ?_
            refine ExL.nil ?_
            refine Hand.mk (i + 1) 5 [0, 1, 2, 3, 4] ⟨rfl, rfl, trivial⟩ ⟨rfl, rfl, rfl, rfl, trivial⟩ (rfl) rfl (by omega) (by omega)
        · refine ExL.nil ?_
          refine Ex.cond_f rfl ?_
          refine Ex.skip ?_
          refine Ex.seq ?_
          refine Ex.regSeq (ExL.pures 1 rfl ?_)
          refine ExL.nil ?_
          refine Ex.block ?_
          refine Ex.loopK (X := Nat) (fun j => [(17, .int .i64 j)]) (fun j => [.row (.slice (some ⟨r5, 0, none⟩) (x1.K.getD k zX).xs.length (x1.K.getD k zX).xs.length) 2 1 (x1.K.getD k zX).xs.length ((rowW lo hi (fun k => (x1.K.getD k zX).xs) k i j).flatMap (eI .i64))]) (fun j => j ≤ (befL lo hi (fun k => (x1.K.getD k zX).xs) k).length) (fun j => (befL lo hi (fun k => (x1.K.getD k zX).xs) k).length - j) 0 [(10, _), (12, _), (13, _), (14, _), (15, _), (16, _)] [_, _, _, _] 5 [0, 1, 2, 3, 4] ⟨rfl, trivial⟩ ⟨rfl, rfl, rfl, rfl, rfl, rfl, trivial⟩ (by first | rfl | exact pkR (congrArg (fun z => List.flatMap (eI .i64) z) (rowW_0n hii (by omega)))) rfl (Nat.zero_le _) (fun j hI => ?_)
          have hI : j ≤ (befL lo hi (fun k => (x1.K.getD k zX).xs) k).length := hI
          refine Ex.seq ?_
          refine Ex.regSeq (ExL.pures 1 rfl ?_)
          refine ExL.gtr rfl rfl rfl rfl rfl rfl (fun h12 => ?_) (fun h12 => ?_)
          · refine ExL.pures 4 rfl ?_
            refine ExL.lss rfl rfl rfl rfl rfl rfl (fun h13 => ?_) (fun h13 => ?_)
            · refine ExL.pures 1 rfl ?_
              refine ExL.nil ?_
              refine Ex.cond_t rfl ?_
              refine Ex.skip ?_
              refine Ex.seq ?_
              refine Ex.block ?_
              have hjb : j < (befL lo hi (fun k => (x1.K.getD k zX).xs) k).length := by omega
              have hk0 := bef_pos hjb
              have hbl := bef_len (lo := lo) (hi := hi) (F := (fun k => (x1.K.getD k zX).xs)) hk0
              have hvj := hfv (k - 1) j (by omega)
              have hcb := curW_bd (i := i) (j := j) hall (fun _ => by omega)
              have hbb := bef_bd hall j
              refine Ex.drawSeqM rfl ?_
              refine ExD.take (i := 0) rfl (by kernel_rfl) (pureVal_ok rfl) ((List.Sublist.refl _)) rfl rfl rfl ?_
              refine ExD.take (i := 1) rfl (by kernel_rfl) (pureVal_ok rfl) ((List.Sublist.refl _)) rfl rfl rfl ?_
              refine ExD.take (i := 2) rfl (by kernel_rfl) (pureVal_ok rfl) ((List.Sublist.refl _)) rfl rfl rfl ?_
              refine ExD.take (i := 3) rfl (by kernel_rfl) (pureVal_ok rfl) ((List.Sublist.refl _)) rfl rfl rfl ?_
              refine ExD.take (i := 4) rfl (by kernel_rfl) (fr_load rfl rfl rfl rfl (CellO.blk (i := 2) rfl rfl)) ((List.Sublist.refl _)) rfl rfl rfl ?_
              refine ExD.take (i := 5) rfl (by kernel_rfl) (pureVal_ok rfl) ((List.Sublist.refl _)) rfl rfl rfl ?_
              refine ExD.take (i := 6) rfl (by kernel_rfl) (by first | exact fr_sub64 rfl rfl rfl (by omega) | exact fr_sub rfl rfl rfl) ((List.Sublist.refl _)) rfl rfl rfl ?_
              refine ExD.take (i := 7) rfl (by kernel_rfl) (fr_indexAddrR (sz := 1) 3 rfl rfl rfl rfl rfl rfl (by omega)) ((List.Sublist.refl _)) rfl rfl rfl ?_
              refine ExD.take (i := 8) rfl (by kernel_rfl) (fr_load rfl rfl rfl rfl (cellJ (i := (↑k - 1)) ((k - 1)) (Reads.row (i := 3) rfl) encX_len zX 0 rfl (by omega) (by omega) rfl)) ((List.Sublist.refl _)) rfl rfl rfl ?_
              refine ExD.take (i := 9) rfl (by kernel_rfl) (pureVal_ok rfl) ((List.Sublist.refl _)) rfl rfl rfl ?_
              refine ExD.take (i := 10) rfl (by kernel_rfl) (fr_indexAddrF (readsX (i := 4) rfl (k := (k - 1)) (by omega)) (eI_len .i64) rfl rfl rfl rfl rfl rfl (by omega)) ((List.Sublist.refl _)) rfl rfl rfl ?_
              refine ExD.take (i := 11) rfl (by kernel_rfl) (fr_load rfl rfl rfl rfl (by first | exact cellN (readsX (i := 4) rfl (k := (k - 1)) (by omega)) (eI_len .i64) 0 0 rfl (by omega) rfl | exact cellF (readsX (i := 4) rfl (k := (k - 1)) (by omega)) (eI_len .i64) 0 0 rfl (by omega) rfl)) ((List.Sublist.refl _)) rfl rfl rfl ?_
              refine ExD.take (i := 12) rfl (by kernel_rfl) (pureVal_ok rfl) ((List.Sublist.refl _)) rfl rfl rfl ?_
              refine ExD.take (i := 13) rfl (by kernel_rfl) (pureVal_ok rfl) ((List.Sublist.refl _)) rfl rfl rfl ?_
              refine ExD.take (i := 14) rfl (by kernel_rfl) (pureVal_ok rfl) ((List.Sublist.refl _)) rfl rfl rfl ?_
              refine ExD.take (i := 15) rfl (by kernel_rfl) (fr_load rfl rfl rfl rfl (CellO.blk (i := 2) rfl rfl)) ((List.Sublist.refl _)) rfl rfl rfl ?_
              refine ExD.take (i := 16) rfl (by kernel_rfl) (pureVal_ok rfl) ((List.Sublist.refl _)) rfl rfl rfl ?_
              refine ExD.take (i := 17) rfl (by kernel_rfl) (fr_indexAddrR (sz := 1) 3 rfl rfl rfl rfl rfl rfl (by omega)) ((List.Sublist.refl _)) rfl rfl rfl ?_
              refine ExD.take (i := 18) rfl (by kernel_rfl) (fr_load rfl rfl rfl rfl (by first | exact cellN (Reads.row (i := 3) rfl) encX_len zX 0 rfl (by omega) rfl | exact cellF (Reads.row (i := 3) rfl) encX_len zX 0 rfl (by omega) rfl)) ((List.Sublist.refl _)) rfl rfl rfl ?_
              refine ExD.take (i := 19) rfl (by kernel_rfl) (pureVal_ok rfl) ((List.Sublist.refl _)) rfl rfl rfl ?_
              refine ExD.take (i := 20) rfl (by kernel_rfl) (fr_indexAddrF (readsX (i := 4) rfl (k := k) (by omega)) (eI_len .i64) rfl rfl rfl rfl rfl rfl (by omega)) ((List.Sublist.refl _)) rfl rfl rfl ?_
              refine ExD.take (i := 21) rfl (by kernel_rfl) (fr_load rfl rfl rfl rfl (by first | exact cellN (readsX (i := 4) rfl (k := k) (by omega)) (eI_len .i64) 0 0 rfl (by omega) rfl | exact cellF (readsX (i := 4) rfl (k := k) (by omega)) (eI_len .i64) 0 0 rfl (by omega) rfl)) ((List.Sublist.refl _)) rfl rfl rfl ?_
              refine ExD.op (i := 22) rfl (by kernel_rfl) rfl (op_ret rfl rfl rfl (c_follows _ _ lo hi (by omega) _ ((x1.K.getD (k - 1) zX).xs.getD j 0) ((x1.K.getD k zX).xs.getD i 0) (by omega) (by omega)) (Reads.get (Reads.blk (i := 2) rfl)) rfl rfl (fun x14 hx14 => ⟨(List.Sublist.refl _), ?_⟩))
              refine ExD.done (by kernel_rfl) ?_
              refine Ex.cond rfl (fun hb15 => ?_) (fun hb15 => ?_)
              · refine Ex.drawM rfl ?_
                refine ExD.take (i := 0) rfl (by kernel_rfl) (pureVal_ok rfl) ((List.Sublist.refl _)) rfl rfl rfl ?_
                refine ExD.take (i := 1) rfl (by kernel_rfl) (pureVal_ok rfl) ((List.Sublist.refl _)) rfl rfl rfl ?_
                refine ExD.take (i := 2) rfl (by kernel_rfl) (fr_indexAddr (sz := 1) rfl rfl rfl rfl rfl rfl (by omega)) ((List.Sublist.refl _)) rfl rfl rfl ?_
                refine ExD.take (i := 3) rfl (by kernel_rfl) (fr_load rfl rfl rfl rfl (cellW (v := .int .i64 (curW lo hi (fun k => (x1.K.getD k zX).xs) k i j)) (i := ↑i) i (Reads.row (i := 0) rfl) (eI_len .i64) 0 0 rfl (by omega) (by rw [rowW_len (by omega)]; omega) (rowW_at hii) rfl)) ((List.Sublist.refl _)) rfl rfl rfl ?_
                refine ExD.take (i := 4) rfl (by kernel_rfl) (pureVal_ok rfl) ((List.Sublist.refl _)) rfl rfl rfl ?_
                refine ExD.take (i := 5) rfl (by kernel_rfl) (pureVal_ok rfl) ((List.Sublist.refl _)) rfl rfl rfl ?_
                refine ExD.take (i := 6) rfl (by kernel_rfl) (fr_indexAddrR (sz := 1) 1 rfl rfl rfl rfl rfl rfl (by omega)) ((List.Sublist.refl _)) rfl rfl rfl ?_
                refine ExD.take (i := 7) rfl (by kernel_rfl) (fr_load rfl rfl rfl rfl (by first | exact cellN (Reads.row (i := 1) rfl) (eI_len .i64) 0 0 rfl (by omega) rfl | exact cellF (Reads.row (i := 1) rfl) (eI_len .i64) 0 0 rfl (by omega) rfl)) ((List.Sublist.refl _)) rfl rfl rfl ?_
                refine ExD.take (i := 8) rfl (by kernel_rfl) (by first | exact fr_add64 rfl rfl rfl (by omega) | exact fr_add rfl rfl rfl) ((List.Sublist.refl _)) rfl rfl rfl ?_
                refine ExD.take (i := 9) rfl (by kernel_rfl) (fr_indexAddr (sz := 1) rfl rfl rfl rfl rfl rfl (by omega)) ((List.Sublist.refl _)) rfl rfl rfl ?_
                refine ExD.last (i := 10) rfl (by kernel_rfl) (by kernel_rfl) rfl (op_storeRowF (i := 0) rfl rfl rfl rfl rfl rfl rfl rfl (room (eI_len .i64) (k := i) (by rw [rowW_len (by omega)]; omega) (by simp) rfl) (List.cons_ne_nil _ _) rfl (rowW_s hii (by simp) (congrArg (eI .i64) (cw_y hk0 (by assumption)))) ?_)
                refine ExD.done (by kernel_rfl) ?_
                refine Ex.region (ExL.pures 1 rfl ?_)
                refine ExL.free (by first | exact fr_add64 rfl rfl rfl (by omega) | exact fr_add rfl rfl rfl) rfl rfl rfl ?_
                refine ExL.pures 1 rfl ?_
                refine ExL.nil ?_
                refine Hand.mk (j + 1) 5 [0, 1, 2, 3, 4] ⟨rfl, trivial⟩ ⟨rfl, rfl, rfl, rfl, rfl, rfl, trivial⟩ (by first | rfl | exact pkR (congrArg (fun z => List.flatMap (eI .i64) z) (cw_n hk0 (by assumption)))) rfl (by omega) (by omega)
              · refine Ex.skip ?_
                refine Ex.region (ExL.pures 1 rfl ?_)
                refine ExL.free (by first | exact fr_add64 rfl rfl rfl (by omega) | exact fr_add rfl rfl rfl) rfl rfl rfl ?_
                refine ExL.pures 1 rfl ?_
                refine ExL.nil ?_
                refine Hand.mk (j + 1) 5 [0, 1, 2, 3, 4] ⟨rfl, trivial⟩ ⟨rfl, rfl, rfl, rfl, rfl, rfl, trivial⟩ (by first | rfl | exact pkR (congrArg (fun z => List.flatMap (eI .i64) z) (cw_n hk0 (by assumption)))) rfl (by omega) (by omega)
            · refine ExL.pures 1 rfl ?_
              refine ExL.nil ?_
              refine Ex.cond_f rfl ?_
              refine Ex.exit ?_
              rw [rowW_fin hii (by omega)]
              refine Ex.region (ExL.pures 3 rfl ?_)
              refine ExL.free (fr_indexAddr (sz := 1) rfl rfl rfl rfl rfl rfl (by omega)) rfl rfl rfl ?_
              refine ExL.free (fr_load rfl rfl rfl rfl (cellW (v := .int .i64 ((wayL lo hi (fun k => (x1.K.getD k zX).xs) k).getD i 0)) (i := ↑i) i (Reads.row (i := 0) rfl) (eI_len .i64) 0 0 rfl (by omega) (by rw [partW_len (by omega)]; omega) (partW_at hii) rfl)) rfl rfl rfl ?_
              refine ExL.free (by first | exact fr_add64 rfl rfl rfl (by omega) | exact fr_add rfl rfl rfl) rfl rfl rfl ?_
              refine ExL.pures 1 rfl ?_
              refine ExL.nil ?_
              refine Ex.region (ExL.pures 1 rfl ?_)
              refine ExL.free (by first | exact fr_add64 rfl rfl rfl (by omega) | exact fr_add rfl rfl rfl) rfl rfl rfl ?_
              refine ExL.pures 1 rfl ?_
              refine ExL.nil ?_
              refine Hand.mk (i + 1) 5 [0, 1, 2, 3, 4] ⟨rfl, rfl, trivial⟩ ⟨rfl, rfl, rfl, rfl, trivial⟩ (rfl) rfl (by omega) (by omega)
          · refine ExL.pures 6 rfl ?_
            refine ExL.nil ?_
            refine Ex.cond_f rfl ?_
            refine Ex.exit ?_
            rw [rowW_fin hii (by omega)]
            refine Ex.region (ExL.pures 3 rfl ?_)
            refine ExL.free (fr_indexAddr (sz := 1) rfl rfl rfl rfl rfl rfl (by omega)) rfl rfl rfl ?_
            refine ExL.free (fr_load rfl rfl rfl rfl (cellW (v := .int .i64 ((wayL lo hi (fun k => (x1.K.getD k zX).xs) k).getD i 0)) (i := ↑i) i (Reads.row (i := 0) rfl) (eI_len .i64) 0 0 rfl (by omega) (by rw [partW_len (by omega)]; omega) (partW_at hii) rfl)) rfl rfl rfl ?_
            refine ExL.free (by first | exact fr_add64 rfl rfl rfl (by omega) | exact fr_add rfl rfl rfl) rfl rfl rfl ?_
            refine ExL.pures 1 rfl ?_
            refine ExL.nil ?_
            refine Ex.region (ExL.pures 1 rfl ?_)
            refine ExL.free (by first | exact fr_add64 rfl rfl rfl (by omega) | exact fr_add rfl rfl rfl) rfl rfl rfl ?_
            refine ExL.pures 1 rfl ?_
            refine ExL.nil ?_
            refine Hand.mk (i + 1) 5 [0, 1, 2, 3, 4] ⟨rfl, rfl, trivial⟩ ⟨rfl, rfl, rfl, rfl, trivial⟩ (rfl) rfl (by omega) (by omega)
      · refine ExL.nil ?_
        refine Ex.cond_f rfl ?_
        refine Ex.exit ?_
        obtain rfl : i = (x1.K.getD k zX).xs.length := (by omega)
        rw [partW_full rfl]
        refine Ex.seq ?_
        refine Ex.regSeq (ExL.pures 1 rfl ?_)
        refine ExL.gtr rfl rfl rfl rfl rfl rfl (fun h16 => ?_) (fun h16 => ?_)
        · refine ExL.nil ?_
          refine Ex.cond_t rfl ?_
          refine Ex.regSeq (ExL.pures 2 rfl ?_)
          refine ExL.nil ?_
          refine Ex.ret ?_
          refine RetQ.mk () rfl (.tmp rfl (.tmp rfl .nil)) (t2 (vI (by first | (rw [wvk_3 (k := k) (i := (x1.K.getD k zX).xs.length) hx1 hc0 (by omega) (by omega) (by omega)]; first | done | rfl) | (rw [wvk_0 (k := k) hx1 hc0 (by omega) (by omega) hall]; first | done | rfl))) (vI (by first | (rw [wvk_3 (k := k) (i := (x1.K.getD k zX).xs.length) hx1 hc0 (by omega) (by omega) (by omega)]; first | done | rfl) | (rw [wvk_0 (k := k) hx1 hc0 (by omega) (by omega) hall]; first | done | rfl)))) [] (rfl) rfl (trivial)
        · refine ExL.nil ?_
          refine Ex.cond_f rfl ?_
          refine Ex.skip ?_
          refine Ex.region (ExL.pures 2 rfl ?_)
          refine ExL.nil ?_
          refine Ex.region (ExL.pures 1 rfl ?_)
          refine ExL.free (by first | exact fr_add64 rfl rfl rfl (by omega) | exact fr_add rfl rfl rfl) rfl rfl rfl ?_
          refine ExL.pures 1 rfl ?_
          refine ExL.nil ?_
          refine HandA.of (k + 1) ((some ⟨r5, 0, none⟩)) ((x1.K.getD k zX).xs.length) 5 [0, 2, 3, 4] ⟨(by rw [bef_s]; rfl), rfl, rfl, trivial⟩ ⟨rfl, trivial⟩ (by first | rfl | (rw [bef_s]; rfl)) rfl (⟨by omega, all_snoc hall (over_no (by omega))⟩) (by omega)
    · refine ExL.nil ?_
      refine Ex.cond_f rfl ?_
      refine Ex.exit ?_
      refine Ex.regSeq (ExL.pures 3 rfl ?_)
      refine ExL.nil ?_
      refine Ex.ret ?_
      refine RetQ.mk () rfl (.tmp rfl (.tmp rfl .nil)) (t2 (vI (by first | (rw [wvk_3 (k := k) (i := (x1.K.getD k zX).xs.length) hx1 hc0 (by omega) (by omega) (by omega)]; first | done | rfl) | (rw [wvk_0 (k := k) hx1 hc0 (by omega) (by omega) hall]; first | done | rfl))) (vI (by first | (rw [wvk_3 (k := k) (i := (x1.K.getD k zX).xs.length) hx1 hc0 (by omega) (by omega) (by omega)]; first | done | rfl) | (rw [wvk_0 (k := k) hx1 hc0 (by omega) (by omega) hall]; first | done | rfl)))) [] (rfl) rfl (trivial)
theorem c_sWays (s : List Int) (hu : Nums 255 s) (As : Option Addr) (cs : Nat) (hls : s.length ≤ maxLen) (L : List VPh) (hLk : ∀ k, k < L.length → OkPh (L.getD k zPh)) (bl cL : Nat) (hlL : L.length ≤ maxLen) (lo hi : Int) : Ret Try.prog 8 [.slice As s.length cs, .slice (some ⟨bl, 0, none⟩) L.length cL, .int .i64 lo, .int .i64 hi] (fun w => Rd w As (s.flatMap (eI .u8)) ∧ Rd w (some ⟨bl, 0, none⟩) (L.flatMap encPh)) (fun x : Unit => .tuple #[.int .i64 (waysV s L lo hi).1, .int .i64 (waysV s L lo hi).2]) (fun x => []) (fun x => True) := by
  by_cases h : codeF s L lo hi lo = 0
  · exact c_sWays_t s hu As cs hls L hLk bl cL hlL lo hi  h
  · exact c_sWays_f s hu As cs hls L hLk bl cL hlL lo hi  h
end Go.Proofs.Ytdfgbocmjgjclaa

/- What these functions of the program hand back, each proved by walking its operations. -/
set_option linter.unusedVariables false
set_option linter.unusedSimpArgs false
set_option maxRecDepth 4000
namespace Go.Proofs.Ytdfgbocmjgjclaa
open Go Go.Sx Go.RowKit Go.W Go.Proofs
attribute [local irreducible] Ex ExL ExD Op1 Free RetQ MutQ Reads CellO SegO LoadsAs
theorem e_84 : Enters Try.prog 84 := Enters.of Try.func84 rfl
theorem c_Mul64 (n : Int) (hn : 0 ≤ n ∧ n ≤ 100000) : Ret Try.prog 84 [.int .u64 1, .int .u64 n] (fun w => True) (fun x : Unit => .tuple #[.int .u64 0, .int .u64 n]) (fun x => []) (fun x => True) := by
  refine Ret.of e_84 Try.func84 rfl Try.ntmps84 rfl rfl (fun w hpre => ?_)
  refine Ex.regSeq (ExL.pures 2 rfl ?_)
  refine ExL.nil ?_
  refine Ex.regSeq (ExL.pures 1 rfl ?_)
  refine ExL.free (Free.val (1) (fr_bits rfl rfl rfl (by simp)) (by rw [and32 (by omega)]; rfl)) rfl rfl rfl ?_
  refine ExL.pures 1 rfl ?_
  refine ExL.nil ?_
  refine Ex.regSeq (ExL.pures 1 rfl ?_)
  refine ExL.free (Free.val (0) (fr_shr rfl rfl rfl (by omega)) (rfl)) rfl rfl rfl ?_
  refine ExL.pures 1 rfl ?_
  refine ExL.nil ?_
  refine Ex.regSeq (ExL.pures 1 rfl ?_)
  refine ExL.free (Free.val (n) (fr_bits rfl rfl rfl (by simp)) (by rw [and32 (by omega)]; omega)) rfl rfl rfl ?_
  refine ExL.pures 1 rfl ?_
  refine ExL.nil ?_
  refine Ex.regSeq (ExL.pures 1 rfl ?_)
  refine ExL.free (Free.val (0) (fr_shr rfl rfl rfl (by omega)) (by rw [shr32]; omega)) rfl rfl rfl ?_
  refine ExL.pures 1 rfl ?_
  refine ExL.nil ?_
  refine Ex.regSeq (ExL.pures 2 rfl ?_)
  refine ExL.free (Free.val (n) (fr_mul rfl rfl rfl) (by rw [Int.one_mul]; exact wrap_u64n _ (by omega) (by omega))) rfl rfl rfl ?_
  refine ExL.pures 1 rfl ?_
  refine ExL.nil ?_
  refine Ex.regSeq (ExL.pures 2 rfl ?_)
  refine ExL.free (Free.val (0) (fr_mul rfl rfl rfl) (by rw [Int.zero_mul]; rfl)) rfl rfl rfl ?_
  refine ExL.pures 1 rfl ?_
  refine ExL.free (Free.val (0) (fr_shr rfl rfl rfl (by omega)) (by rw [shr32]; omega)) rfl rfl rfl ?_
  refine ExL.free (Free.val (0) (fr_add rfl rfl rfl) (rfl)) rfl rfl rfl ?_
  refine ExL.pures 1 rfl ?_
  refine ExL.nil ?_
  refine Ex.regSeq (ExL.pures 1 rfl ?_)
  refine ExL.free (Free.val (0) (fr_bits rfl rfl rfl (by simp)) (by rw [and32 (by omega)]; rfl)) rfl rfl rfl ?_
  refine ExL.pures 1 rfl ?_
  refine ExL.nil ?_
  refine Ex.regSeq (ExL.pures 1 rfl ?_)
  refine ExL.free (Free.val (0) (fr_shr rfl rfl rfl (by omega)) (rfl)) rfl rfl rfl ?_
  refine ExL.pures 1 rfl ?_
  refine ExL.nil ?_
  refine Ex.regSeq (ExL.pures 3 rfl ?_)
  refine ExL.free (Free.val (0) (fr_mul rfl rfl rfl) (rfl)) rfl rfl rfl ?_
  refine ExL.free (Free.val (0) (fr_add rfl rfl rfl) (rfl)) rfl rfl rfl ?_
  refine ExL.pures 1 rfl ?_
  refine ExL.nil ?_
  refine Ex.regSeq (ExL.pures 2 rfl ?_)
  refine ExL.free (Free.val (0) (fr_mul rfl rfl rfl) (rfl)) rfl rfl rfl ?_
  refine ExL.pures 1 rfl ?_
  refine ExL.free (Free.val (0) (fr_add rfl rfl rfl) (rfl)) rfl rfl rfl ?_
  refine ExL.pures 1 rfl ?_
  refine ExL.free (Free.val (0) (fr_shr rfl rfl rfl (by omega)) (rfl)) rfl rfl rfl ?_
  refine ExL.free (Free.val (0) (fr_add rfl rfl rfl) (rfl)) rfl rfl rfl ?_
  refine ExL.pures 1 rfl ?_
  refine ExL.nil ?_
  refine Ex.regSeq (ExL.pures 2 rfl ?_)
  refine ExL.free (Free.val (n) (fr_mul rfl rfl rfl) (by rw [Int.one_mul]; exact wrap_u64n _ (by omega) (by omega))) rfl rfl rfl ?_
  refine ExL.pures 1 rfl ?_
  refine ExL.nil ?_
  refine Ex.ret ?_
  refine RetQ.mk () rfl (.tmp rfl (.tmp rfl .nil)) (rfl) [] (rfl) rfl (trivial)
theorem e_80 : Enters Try.prog 80 := Enters.of Try.func80 rfl
theorem c_Mul (n : Int) (hn : 0 ≤ n ∧ n ≤ 100000) : Ret Try.prog 80 [.int .u64 1, .int .u64 n] (fun w => True) (fun x : Unit => .tuple #[.int .u64 0, .int .u64 n]) (fun x => []) (fun x => True) := by
  refine Ret.of e_80 Try.func80 rfl Try.ntmps80 rfl rfl (fun w hpre => ?_)
  refine Ex.regSeq (ExL.pures 2 rfl ?_)
  refine ExL.nil ?_
  refine Ex.seq ?_
  refine Ex.cond_f rfl ?_
  refine Ex.skip ?_
  refine Ex.regSeq (ExL.pures 2 rfl ?_)
  refine ExL.op rfl (op_ret rfl rfl rfl (c_Mul64 _ (by omega)) (fun _ _ => trivial) rfl rfl (fun x1 hx1 => ?_))
  refine ExL.pures 5 rfl ?_
  refine ExL.nil ?_
  refine Ex.regSeq (ExL.pures 4 rfl ?_)
  refine ExL.nil ?_
  refine Ex.ret ?_
  refine RetQ.mk () rfl (.tmp rfl (.tmp rfl .nil)) (rfl) [] (rfl) rfl (trivial)
theorem e_65 : Enters Try.prog 65 := Enters.of Try.func65 rfl
theorem c_Repeat (a : Int) (A : Option Addr) (c : Nat) (n : Nat) (hn : 1 ≤ n ∧ n ≤ 1000) : Ret Try.prog 65 [.slice A 1 c, .int .i64 n] (fun w => Rd w A ([a].flatMap (eI .i64))) (fun x : Nat => .slice (some ⟨x, 0, none⟩) n n) (fun x => [.row (.slice (some ⟨x, 0, none⟩) n n) 2 1 n ((List.replicate n a).flatMap (eI .i64))]) (fun x => True) := by
  refine Ret.of e_65 Try.func65 rfl Try.ntmps65 rfl rfl (fun w hpre => ?_)
  have hs := hpre.base
  have hm0 : maxLen = 9223372036854775807 := rfl
  refine Ex.regSeq (ExL.pures 1 rfl ?_)
  refine ExL.nil ?_
  refine Ex.seq ?_
  refine Ex.regSeq (ExL.pures 1 rfl ?_)
  refine ExL.free (fr_lss_f rfl rfl rfl (by omega)) rfl rfl rfl ?_
  refine ExL.nil ?_
  refine Ex.cond_f rfl ?_
  refine Ex.skip ?_
  refine Ex.regSeq (ExL.pures 2 rfl ?_)
  refine ExL.free (by first | exact fr_conv_u64 rfl rfl rfl rfl (by omega) | exact fr_conv rfl rfl rfl rfl) rfl rfl rfl ?_
  refine ExL.pures 1 rfl ?_
  refine ExL.free (by first | exact fr_conv_u64 rfl rfl rfl rfl (by omega) | exact fr_conv rfl rfl rfl rfl) rfl rfl rfl ?_
  refine ExL.op rfl (op_ret rfl rfl rfl (c_Mul _ (by omega)) (fun _ _ => trivial) rfl rfl (fun x1 hx1 => ?_))
  refine ExL.pures 5 rfl ?_
  refine ExL.nil ?_
  refine Ex.seq ?_
  refine Ex.regSeq (ExL.pures 1 rfl ?_)
  refine ExL.free (fr_gtr_f rfl rfl rfl (by omega)) rfl rfl rfl ?_
  refine ExL.pures 2 rfl ?_
  refine ExL.free (fr_gtr_f rfl rfl rfl (by omega)) rfl rfl rfl ?_
  refine ExL.pures 1 rfl ?_
  refine ExL.nil ?_
  refine Ex.cond_f rfl ?_
  refine Ex.skip ?_
  refine Ex.regSeq (ExL.pures 1 rfl ?_)
  refine ExL.free (by first | exact fr_conv64 rfl rfl rfl rfl (by omega) | exact fr_conv rfl rfl rfl rfl) rfl rfl rfl ?_
  refine ExL.op rfl (op_makeSlice (sz := 8) rfl rfl rfl rfl rfl rfl rfl rfl (⟨by omega, by unfold maxLen; omega⟩) rfl rfl (fun r2 => ?_))
  refine ExL.pures 1 rfl ?_
  refine ExL.nil ?_
  refine Ex.regSeq (ExL.pures 2 rfl ?_)
  refine ExL.op rfl (op_copyRow (i := 0) rfl rfl rfl rfl rfl rfl rfl rfl [Value.int .i64 a] (by simp; omega) (by simp) (rep_one (Reads.old hs)) (rep_room hn.1) rfl (rep_first hn.1) ?_)
  refine ExL.pures 1 rfl ?_
  refine ExL.nil ?_
  refine Ex.seq ?_
  refine Ex.block ?_
  refine Ex.loopK (X := Nat) (fun k => [(8, .int .i64 k)]) (fun k => [.row (.slice (some ⟨r2, 0, none⟩) n n) 2 1 n ((repP n a k).flatMap (eI .i64))]) (fun k => 1 ≤ k ∧ k ≤ n) (fun k => n - k) 1 [(4, _), (7, _)] [] 1 [0] ⟨rfl, trivial⟩ ⟨rfl, rfl, trivial⟩ (rfl) rfl ⟨Nat.le_refl _, hn.1⟩ (fun k hI => ?_)
  have hI : 1 ≤ k ∧ k ≤ n := hI
  have hlr : (List.replicate (min (n - k) k) (Value.int .i64 a)).length = (min (n - k) k) := List.length_replicate
  refine Ex.seq ?_
  refine Ex.regSeq (ExL.pures 3 rfl ?_)
  refine ExL.lss rfl rfl rfl rfl rfl rfl (fun h3 => ?_) (fun h3 => ?_)
  · refine ExL.nil ?_
    refine Ex.cond_t rfl ?_
    refine Ex.skip ?_
    refine Ex.block ?_
    refine Ex.drawI [] rfl rfl ?_
    refine ExD.take (i := 0) rfl (by kernel_rfl) (pureVal_ok rfl) ((List.nil_sublist _)) rfl rfl rfl ?_
    refine ExD.take (i := 1) rfl (by kernel_rfl) (pureVal_ok rfl) ((List.nil_sublist _)) rfl rfl rfl ?_
    refine ExD.take (i := 2) rfl (by kernel_rfl) (pureVal_ok rfl) ((List.nil_sublist _)) rfl rfl rfl ?_
    refine ExD.take (i := 3) rfl (by kernel_rfl) (fr_slice_lb (sz := 1) k rfl rfl rfl rfl rfl rfl (by omega) (by omega)) ((List.nil_sublist _)) rfl rfl rfl ?_
    refine ExD.take (i := 4) rfl (by kernel_rfl) (pureVal_ok rfl) ((List.nil_sublist _)) rfl rfl rfl ?_
    refine ExD.take (i := 5) rfl (by kernel_rfl) (pureVal_ok rfl) ((List.nil_sublist _)) rfl rfl rfl ?_
    refine ExD.take (i := 6) rfl (by kernel_rfl) (fr_slice_h (sz := 1) k rfl rfl rfl rfl rfl rfl (by omega)) ((List.nil_sublist _)) rfl rfl rfl ?_
    refine ExD.op (i := 7) rfl (by kernel_rfl) rfl (op_copyRow (i := 0) rfl rfl rfl rfl rfl rfl rfl rfl (List.replicate (min (n - k) k) (Value.int .i64 a)) (by rw [List.length_replicate]; omega) (by rw [List.length_replicate]; omega) (seg_row (i := 0) rfl (by intro h9; have := congrArg List.length h9; rw [List.length_replicate, List.length_nil] at this; omega) (rep_seg (by omega))) (by rw [List.length_replicate, flat_len (eI_len .i64), repP_len (by omega)]; omega) (rep_all1 _ _) (repP_put (by omega) (by omega)) ⟨(List.nil_sublist _), ?_⟩)
    refine ExD.take (i := 8) rfl (by kernel_rfl) (by first | exact fr_add64 rfl rfl rfl (by omega) | exact fr_add rfl rfl rfl) ((List.nil_sublist _)) rfl rfl rfl ?_
    refine ExD.take (i := 9) rfl (by kernel_rfl) (pureVal_ok rfl) ((List.nil_sublist _)) rfl rfl rfl ?_
    refine ExD.done (by kernel_rfl) ?_
    refine Hand.mk (k + (min (n - k) k)) 1 [0] ⟨agI (by rw [List.length_replicate]; omega), trivial⟩ ⟨rfl, rfl, trivial⟩ (rfl) rfl (⟨by omega, by omega⟩) (by omega)
  · refine ExL.nil ?_
    refine Ex.cond_f rfl ?_
    refine Ex.exit ?_
    obtain rfl : k = n := (by omega)
    rw [repP_all]
    refine Ex.regSeq (ExL.pures 2 rfl ?_)
    refine ExL.nil ?_
    refine Ex.ret ?_
    refine RetQ.mk _ rfl (.tmp rfl .nil) (rfl) [0] (rfl) rfl (trivial)
end Go.Proofs.Ytdfgbocmjgjclaa
