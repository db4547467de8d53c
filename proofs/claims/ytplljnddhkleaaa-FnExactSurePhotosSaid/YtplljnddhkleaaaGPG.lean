/- What these functions of the program hand back, each proved by walking its operations. -/
import Derived.Test.YtplljnddhkleaaaProg
import Derived.Test.YtplljnddhkleaaaFw
import Derived.Test.YtplljnddhkleaaaGPF
set_option linter.unusedVariables false
set_option linter.unusedSimpArgs false
set_option maxRecDepth 4000
namespace Go.Proofs.Ytplljnddhkleaaa
open Go Go.Sx Go.RowKit Go.W Go.Proofs
attribute [local irreducible] Ex ExL ExD Op1 Free RetQ MutQ Reads CellO SegO LoadsAs
theorem e_73 : Enters Try.prog 73 := Enters.of Try.func73 rfl
theorem c_filmOf_t (s : List Int) (hu : Nums 255 s) (As : Option Addr) (cs : Nat) (hls : s.length ≤ maxLen) (L : List VPh) (hLk : ∀ k, k < L.length → OkPh (L.getD k zPh)) (bl cL : Nat) (hlL : L.length ≤ maxLen) (lo hi us : Int) (hc0 : codeF s L lo hi us = 0) : Ret Try.prog 73 [.slice As s.length cs, .slice (some ⟨bl, 0, none⟩) L.length cL, .int .i64 lo, .int .i64 hi, .int .i64 us] (fun w => Rd w As (s.flatMap (eI .u8)) ∧ Rd w (some ⟨bl, 0, none⟩) (L.flatMap encPh)) (fun x : FX => .tuple #[.pointer (some ⟨x.b, 0, none⟩), .int .i64 0]) (fun x => [.blk x.b [.slice x.A x.K.length x.c, .int .i64 lo, .int .i64 hi] 104, .row (.slice x.A x.K.length x.c) 39 1 x.K.length (x.K.flatMap encX), .pile (x.K.map (rwX (eI .i64) 2 1))]) (fun x => x.K.map (·.xs) = filmL s L) := by
  refine Ret.of e_73 Try.func73 rfl Try.ntmps73 rfl rfl (fun w hpre => ?_)
  have hs := hpre.1.base
  have hLr := hpre.2.base
  have hm0 : maxLen = 9223372036854775807 := rfl
  obtain ⟨hv, hnb, hrg, hmy⟩ := cf_of hc0
  have hS := stk hv
  have hLp := okLp hLk hv hnb
  have hsb0 := hs
  refine Ex.regSeq (ExL.pures 0 rfl ?_)
  refine ExL.op rfl (op_box rfl rfl rfl rfl rfl (fun b1 => ?_))
  refine ExL.pures 2 rfl ?_
  refine ExL.nil ?_
  refine Ex.seq ?_
  refine Ex.regSeq (ExL.pures 0 rfl ?_)
  refine ExL.free (fr_load rfl rfl rfl rfl (CellO.blk (i := 0) rfl rfl)) rfl rfl rfl ?_
  refine ExL.op rfl (op_ret rfl rfl rfl (c_ValidStack _ (by assumption) _ _ (by first | assumption | omega | (unfold maxLen; omega))) (Reads.get (Reads.old hs)) rfl rfl (fun x2 hx2 => ?_))
  refine ExL.pures 2 rfl ?_
  refine ExL.bool (d := 18) rfl (fun hb3 => ?_) (fun hb3 => ?_)
  · replace hb3 := nb_t hb3
    refine ExL.pures 4 rfl ?_
    refine ExL.nil ?_
    refine Ex.cond_t rfl ?_
    exfalso; simp_all
  · replace hb3 := nb_f hb3
    refine ExL.pures 1 rfl ?_
    refine ExL.free (fr_makeFunc rfl rfl rfl) rfl rfl rfl ?_
    refine ExL.op rfl (op_ret rfl rfl rfl (c_plContainsFunc s (by first | exact hv | assumption) As cs _ L hLk _ _ (by omega)) (fun w hw => ⟨Reads.get (Reads.old hLr) w hw, Reads.get (Reads.blk (i := 0) rfl) w hw, Reads.get (Reads.old hs) w hw⟩) rfl rfl (fun x4 hx4 => ?_))
    refine ExL.pures 1 rfl ?_
    refine ExL.nil ?_
    refine Ex.cond rfl (fun hb5 => ?_) (fun hb5 => ?_)
    · exfalso; simp_all
    · refine Ex.skip ?_
      refine Ex.seq ?_
      refine Ex.regSeq (ExL.pures 2 rfl ?_)
      refine ExL.op rfl (op_ret rfl rfl rfl (c_within _ _ _) (fun _ _ => trivial) rfl rfl (fun x6 hx6 => ?_))
      refine ExL.pures 2 rfl ?_
      refine ExL.bool (d := 27) rfl (fun hb7 => ?_) (fun hb7 => ?_)
      · replace hb7 := nd_t hb7
        refine ExL.pures 19 rfl ?_
        refine ExL.nil ?_
        refine Ex.cond_t rfl ?_
        exfalso; omega
      · replace hb7 := nd_f hb7
        refine ExL.pures 1 rfl ?_
        refine ExL.lss rfl rfl rfl rfl rfl rfl (fun h8 => ?_) (fun h8 => ?_)
        · refine ExL.pures 17 rfl ?_
          refine ExL.nil ?_
          refine Ex.cond_t rfl ?_
          exfalso; omega
        · refine ExL.pures 4 rfl ?_
          refine ExL.gtr rfl rfl rfl rfl rfl rfl (fun h9 => ?_) (fun h9 => ?_)
          · refine ExL.pures 12 rfl ?_
            refine ExL.nil ?_
            refine Ex.cond_t rfl ?_
            exfalso; omega
          · refine ExL.pures 3 rfl ?_
            refine ExL.gtr rfl rfl rfl rfl rfl rfl (fun h10 => ?_) (fun h10 => ?_)
            · refine ExL.pures 8 rfl ?_
              refine ExL.nil ?_
              refine Ex.cond_t rfl ?_
              exfalso; omega
            · refine ExL.pures 5 rfl ?_
              refine ExL.op rfl (op_ret rfl rfl rfl (c_within _ _ _) (fun _ _ => trivial) rfl rfl (fun x11 hx11 => ?_))
              refine ExL.pures 2 rfl ?_
              refine ExL.nil ?_
              refine Ex.cond rfl (fun hb12 => ?_) (fun hb12 => ?_)
              · replace hb12 := nd_t hb12
                exfalso; omega
              · replace hb12 := nd_f hb12
                refine Ex.skip ?_
                refine Ex.regSeq (ExL.pures 2 rfl ?_)
                refine ExL.free (fr_build rfl rfl rfl rfl) rfl rfl rfl ?_
                refine ExL.op rfl (op_box rfl rfl rfl rfl rfl (fun b13 => ?_))
                refine ExL.pures 1 rfl ?_
                refine ExL.nil ?_
                refine Ex.seq ?_
                refine Ex.nilRow 39 1 ?_
                refine Ex.pile0 ?_
                refine Ex.regSeq (ExL.pures 3 rfl ?_)
                refine ExL.nil ?_
                refine Ex.block ?_
                refine Ex.loopK (X := FSt) (fun q => [(53, .int .i64 q.K.length)]) (fun q => [.blk b13 [.slice q.A q.K.length q.c, .int .i64 lo, .int .i64 hi] 104, .row (.slice q.A q.K.length q.c) 39 1 q.K.length (q.K.flatMap encX), .pile (q.K.map (rwX (eI .i64) 2 1))]) (fun q => q.K.length ≤ L.length ∧ q.K.map (·.xs) = (filmL s L).take q.K.length ∧ ∀ i, i < q.K.length → decide (400 < choV (L.getD i zPh).l s.length) = false) (fun q => L.length - q.K.length) ⟨none, 0, []⟩ [(5, _), (12, _), (51, _), (52, _)] [_] 4 [2, 1, 0, 3] ⟨rfl, trivial⟩ ⟨rfl, rfl, rfl, rfl, trivial⟩ (rfl) rfl ⟨Nat.zero_le _, rfl, fun i hi => by simp at hi⟩ (fun q hI => ?_)
                have hI : q.K.length ≤ L.length ∧ q.K.map (·.xs) = (filmL s L).take q.K.length ∧ ∀ i, i < q.K.length → decide (400 < choV (L.getD i zPh).l s.length) = false := hI
                obtain ⟨hK, hKm, hall⟩ := hI
                refine Ex.regSeq (ExL.pures 0 rfl ?_)
                refine ExL.lss rfl rfl rfl rfl rfl rfl (fun h14 => ?_) (fun h14 => ?_)
                · refine ExL.nil ?_
                  refine Ex.seq ?_
                  refine Ex.cond_t rfl ?_
                  refine Ex.skip ?_
                  refine Ex.seq ?_
                  refine Ex.block ?_
                  refine Ex.regSeq (ExL.pures 0 rfl ?_)
                  refine ExL.free (fr_indexAddrF (Reads.old hLr) encPh_len rfl rfl rfl rfl rfl rfl (by omega)) rfl rfl rfl ?_
                  refine ExL.free (fr_loadN rfl rfl rfl rfl rfl (by first | exact segN (Reads.old hLr) encPh_len rfl zPh (by omega) | exact segF (Reads.old hLr) encPh_len rfl zPh (by omega))) rfl rfl rfl ?_
                  refine ExL.op rfl (op_alloc rfl rfl rfl rfl rfl (fun b15 => ?_))
                  refine ExL.op rfl (op_storeC (i := 0) rfl rfl rfl rfl rfl rfl rfl rfl rfl rfl ?_)
                  refine ExL.nil ?_
                  refine Ex.seq ?_
                  refine Ex.regSeq (ExL.pures 0 rfl ?_)
                  refine ExL.free (fr_load rfl rfl rfl rfl (CellO.blk (i := 4) rfl rfl)) rfl rfl rfl ?_
                  refine ExL.pures 1 rfl ?_
                  refine ExL.op rfl (op_ret rfl rfl rfl (c_choices s (by first | assumption | exact stk (by assumption)) (L.getD q.K.length zPh) (hLp _ (by omega)) (hLk _ (by omega)) _ _ s.length (by omega)) (Reads.get (Reads.blk (i := 0) rfl)) rfl rfl (fun x16 hx16 => ?_))
                  refine ExL.gtr rfl rfl rfl rfl rfl rfl (fun h17 => ?_) (fun h17 => ?_)
                  · refine ExL.nil ?_
                    refine Ex.cond_t rfl ?_
                    have h9 := any_at (d := zPh) hmy (k := q.K.length) (by omega)
                    rw [decide_eq_false_iff_not] at h9
                    exfalso; omega
                  · refine ExL.nil ?_
                    refine Ex.cond_f rfl ?_
                    refine Ex.skip ?_
                    refine Ex.drawI [0, 3, 4] rfl rfl ?_
                    refine ExD.take (i := 0) rfl (by kernel_rfl) (pureVal_ok rfl) ((List.Sublist.cons_cons _ (List.Sublist.cons _ (List.Sublist.cons _ (List.Sublist.refl _))))) rfl rfl rfl ?_
                    refine ExD.take (i := 1) rfl (by kernel_rfl) (pureVal_ok rfl) ((List.Sublist.cons_cons _ (List.Sublist.cons _ (List.Sublist.cons _ (List.Sublist.refl _))))) rfl rfl rfl ?_
                    refine ExD.take (i := 2) rfl (by kernel_rfl) (pureVal_ok rfl) ((List.Sublist.cons_cons _ (List.Sublist.cons _ (List.Sublist.cons _ (List.Sublist.refl _))))) rfl rfl rfl ?_
                    refine ExD.take (i := 3) rfl (by kernel_rfl) (pureVal_ok rfl) ((List.Sublist.cons_cons _ (List.Sublist.cons _ (List.Sublist.cons _ (List.Sublist.refl _))))) rfl rfl rfl ?_
                    refine ExD.take (i := 5) rfl (by kernel_rfl) (fr_load rfl rfl rfl rfl (CellO.blk (i := 2) rfl rfl)) ((List.Sublist.cons_cons _ (List.Sublist.cons _ (List.Sublist.cons _ (List.Sublist.refl _))))) rfl rfl rfl ?_
                    refine ExD.take (i := 6) rfl (by kernel_rfl) (fr_loadN rfl rfl rfl rfl rfl (SegO.whole (i := 0) rfl)) ((List.Sublist.cons_cons _ (List.Sublist.cons _ (List.Sublist.cons _ (List.Sublist.refl _))))) rfl rfl rfl ?_
                    refine ExD.fork (i := 4) (j := 7) rfl rfl (by kernel_rfl) rfl rfl (Op1.of_free (fr_load rfl rfl rfl rfl (CellO.blk (i := 1) rfl rfl)) rfl rfl ⟨(List.Sublist.cons_cons _ (List.Sublist.cons _ (List.Sublist.cons _ (List.Sublist.refl _)))), ?_⟩) (op_ret rfl rfl rfl (c_values s (by first | assumption | simp_all) _ _ (L.getD q.K.length zPh) (hLk _ (by omega)) (hLp _ (by omega))) (Reads.get (Reads.old hs)) rfl rfl (fun x18 hx18 => ⟨(List.Sublist.cons _ (List.Sublist.cons_cons _ (List.Sublist.cons _ (List.Sublist.cons _ (List.Sublist.refl _))))), ?_⟩))
                    · refine ExD.op (i := 7) rfl (by kernel_rfl) rfl (op_ret rfl rfl rfl (c_values s (by first | assumption | simp_all) _ _ (L.getD q.K.length zPh) (hLk _ (by omega)) (hLp _ (by omega))) (Reads.get (Reads.old hs)) rfl rfl (fun x19 hx19 => ⟨(List.Sublist.cons _ (List.Sublist.cons_cons _ (List.Sublist.cons _ (List.Sublist.cons _ (List.Sublist.refl _))))), ?_⟩))
                      refine ExD.op (i := 8) rfl (by kernel_rfl) rfl (op_buildSlice (sz := 1) rfl rfl rfl rfl rfl rfl rfl rfl (by decide) rfl rfl rfl (fun r20 => ⟨(List.Sublist.cons _ (List.Sublist.cons _ (List.Sublist.cons_cons _ (List.Sublist.cons _ (List.Sublist.cons _ (List.Sublist.refl _)))))), ?_⟩))
                      refine ExD.op (i := 9) rfl (by kernel_rfl) rfl (op_append (sz := 1) (bytes := 24) (i := 4) rfl rfl rfl rfl (Reads.row (i := 0) rfl) rfl (fun e => nomatch e) rfl rfl rfl rfl (by constructor <;> first | omega | (unfold maxLen; omega)) rfl rfl (fun A21 cA21 => ⟨(List.Sublist.cons _ (List.Sublist.cons _ (List.Sublist.cons_cons _ (List.Sublist.cons _ (List.Sublist.cons _ (List.Sublist.refl _)))))), ?_⟩))
                      refine ExD.take (i := 10) rfl (by kernel_rfl) (pureVal_ok rfl) ((List.Sublist.cons _ (List.Sublist.cons _ (List.Sublist.cons_cons _ (List.Sublist.cons _ (List.Sublist.cons _ (List.Sublist.refl _))))))) rfl rfl rfl ?_
                      refine ExD.take (i := 11) rfl (by kernel_rfl) (pureVal_ok rfl) ((List.Sublist.cons _ (List.Sublist.cons _ (List.Sublist.cons_cons _ (List.Sublist.cons _ (List.Sublist.cons _ (List.Sublist.refl _))))))) rfl rfl rfl ?_
                      refine ExD.op (i := 12) rfl (by kernel_rfl) rfl (op_storeC (i := 3) rfl rfl rfl rfl rfl rfl rfl rfl rfl rfl ⟨(List.Sublist.cons _ (List.Sublist.cons _ (List.Sublist.cons_cons _ (List.Sublist.cons _ (List.Sublist.cons _ (List.Sublist.refl _)))))), ?_⟩)
                      refine ExD.done (by kernel_rfl) ?_
                      refine Ex.conv (layEnd (perm_lt (i := 1) (j := 5) rfl rfl rfl)) ?_
                      refine Ex.region (ExL.pures 0 rfl ?_)
                      refine ExL.free (by first | exact fr_add64 rfl rfl rfl (by omega) | exact fr_add rfl rfl rfl) rfl rfl rfl ?_
                      refine ExL.pures 1 rfl ?_
                      refine ExL.nil ?_
                      have hKn : (q.K ++ [(⟨x19.1, x19.2, valsP s (L.getD q.K.length zPh)⟩ : VX Int)]).length = q.K.length + 1 := by simp
                      refine Hand.mk (⟨A21, cA21, q.K ++ [(⟨x19.1, x19.2, valsP s (L.getD q.K.length zPh)⟩ : VX Int)]⟩) 6 [3, 4, 0, 5] ⟨agI (by first | rfl | (simp; done) | (dsimp only; rw [hKn]; rfl)), trivial⟩ ⟨rfl, rfl, rfl, rfl, trivial⟩ (by first | rfl | (simp only [List.map_append, List.flatMap_append, hKn]; rfl)) rfl (⟨by dsimp only; omega, kx_step hKm (by omega) rfl, by dsimp only; rw [hKn]; exact all_snoc hall (by first | exact decide_eq_false (by omega) | (simp; omega))⟩) (by dsimp only; omega)
                    · refine ExD.fork (i := 4) (j := 8) rfl rfl (by kernel_rfl) rfl rfl (Op1.of_free (fr_load rfl rfl rfl rfl (CellO.blk (i := 2) rfl rfl)) rfl rfl ⟨(List.Sublist.cons _ (List.Sublist.cons_cons _ (List.Sublist.cons _ (List.Sublist.cons _ (List.Sublist.refl _))))), ?_⟩) (op_buildSlice (sz := 1) rfl rfl rfl rfl rfl rfl rfl rfl (by decide) rfl rfl rfl (fun r23 => ⟨(List.Sublist.cons _ (List.Sublist.cons _ (List.Sublist.cons_cons _ (List.Sublist.cons _ (List.Sublist.cons _ (List.Sublist.refl _)))))), ?_⟩))
                      · refine ExD.op (i := 8) rfl (by kernel_rfl) rfl (op_buildSlice (sz := 1) rfl rfl rfl rfl rfl rfl rfl rfl (by decide) rfl rfl rfl (fun r24 => ⟨(List.Sublist.cons _ (List.Sublist.cons _ (List.Sublist.cons_cons _ (List.Sublist.cons _ (List.Sublist.cons _ (List.Sublist.refl _)))))), ?_⟩))
                        refine ExD.op (i := 9) rfl (by kernel_rfl) rfl (op_append (sz := 1) (bytes := 24) (i := 4) rfl rfl rfl rfl (Reads.row (i := 0) rfl) rfl (fun e => nomatch e) rfl rfl rfl rfl (by constructor <;> first | omega | (unfold maxLen; omega)) rfl rfl (fun A25 cA25 => ⟨(List.Sublist.cons _ (List.Sublist.cons _ (List.Sublist.cons_cons _ (List.Sublist.cons _ (List.Sublist.cons _ (List.Sublist.refl _)))))), ?_⟩))
                        refine ExD.take (i := 10) rfl (by kernel_rfl) (pureVal_ok rfl) ((List.Sublist.cons _ (List.Sublist.cons _ (List.Sublist.cons_cons _ (List.Sublist.cons _ (List.Sublist.cons _ (List.Sublist.refl _))))))) rfl rfl rfl ?_
                        refine ExD.take (i := 11) rfl (by kernel_rfl) (pureVal_ok rfl) ((List.Sublist.cons _ (List.Sublist.cons _ (List.Sublist.cons_cons _ (List.Sublist.cons _ (List.Sublist.cons _ (List.Sublist.refl _))))))) rfl rfl rfl ?_
                        refine ExD.op (i := 12) rfl (by kernel_rfl) rfl (op_storeC (i := 3) rfl rfl rfl rfl rfl rfl rfl rfl rfl rfl ⟨(List.Sublist.cons _ (List.Sublist.cons _ (List.Sublist.cons_cons _ (List.Sublist.cons _ (List.Sublist.cons _ (List.Sublist.refl _)))))), ?_⟩)
                        refine ExD.done (by kernel_rfl) ?_
                        refine Ex.conv (layEnd (perm_lt (i := 1) (j := 5) rfl rfl rfl)) ?_
                        refine Ex.region (ExL.pures 0 rfl ?_)
                        refine ExL.free (by first | exact fr_add64 rfl rfl rfl (by omega) | exact fr_add rfl rfl rfl) rfl rfl rfl ?_
                        refine ExL.pures 1 rfl ?_
                        refine ExL.nil ?_
                        have hKn : (q.K ++ [(⟨x18.1, x18.2, valsP s (L.getD q.K.length zPh)⟩ : VX Int)]).length = q.K.length + 1 := by simp
                        refine Hand.mk (⟨A25, cA25, q.K ++ [(⟨x18.1, x18.2, valsP s (L.getD q.K.length zPh)⟩ : VX Int)]⟩) 6 [3, 4, 0, 5] ⟨agI (by first | rfl | (simp; done) | (dsimp only; rw [hKn]; rfl)), trivial⟩ ⟨rfl, rfl, rfl, rfl, trivial⟩ (by first | rfl | (simp only [List.map_append, List.flatMap_append, hKn]; rfl)) rfl (⟨by dsimp only; omega, kx_step hKm (by omega) rfl, by dsimp only; rw [hKn]; exact all_snoc hall (by first | exact decide_eq_false (by omega) | (simp; omega))⟩) (by dsimp only; omega)
                      · refine ExD.op (i := 4) rfl (by kernel_rfl) rfl (Op1.of_free (fr_load rfl rfl rfl rfl (CellO.blk (i := 3) rfl rfl)) rfl rfl ⟨(List.Sublist.cons _ (List.Sublist.cons _ (List.Sublist.cons_cons _ (List.Sublist.cons _ (List.Sublist.cons _ (List.Sublist.refl _)))))), ?_⟩)
                        refine ExD.op (i := 9) rfl (by kernel_rfl) rfl (op_append (sz := 1) (bytes := 24) (i := 4) rfl rfl rfl rfl (Reads.row (i := 0) rfl) rfl (fun e => nomatch e) rfl rfl rfl rfl (by constructor <;> first | omega | (unfold maxLen; omega)) rfl rfl (fun A27 cA27 => ⟨(List.Sublist.cons _ (List.Sublist.cons _ (List.Sublist.cons_cons _ (List.Sublist.cons _ (List.Sublist.cons _ (List.Sublist.refl _)))))), ?_⟩))
                        refine ExD.take (i := 10) rfl (by kernel_rfl) (pureVal_ok rfl) ((List.Sublist.cons _ (List.Sublist.cons _ (List.Sublist.cons_cons _ (List.Sublist.cons _ (List.Sublist.cons _ (List.Sublist.refl _))))))) rfl rfl rfl ?_
                        refine ExD.take (i := 11) rfl (by kernel_rfl) (pureVal_ok rfl) ((List.Sublist.cons _ (List.Sublist.cons _ (List.Sublist.cons_cons _ (List.Sublist.cons _ (List.Sublist.cons _ (List.Sublist.refl _))))))) rfl rfl rfl ?_
                        refine ExD.op (i := 12) rfl (by kernel_rfl) rfl (op_storeC (i := 3) rfl rfl rfl rfl rfl rfl rfl rfl rfl rfl ⟨(List.Sublist.cons _ (List.Sublist.cons _ (List.Sublist.cons_cons _ (List.Sublist.cons _ (List.Sublist.cons _ (List.Sublist.refl _)))))), ?_⟩)
                        refine ExD.done (by kernel_rfl) ?_
                        refine Ex.conv (layEnd (perm_lt (i := 1) (j := 5) rfl rfl rfl)) ?_
                        refine Ex.region (ExL.pures 0 rfl ?_)
                        refine ExL.free (by first | exact fr_add64 rfl rfl rfl (by omega) | exact fr_add rfl rfl rfl) rfl rfl rfl ?_
                        refine ExL.pures 1 rfl ?_
                        refine ExL.nil ?_
                        have hKn : (q.K ++ [(⟨x18.1, x18.2, valsP s (L.getD q.K.length zPh)⟩ : VX Int)]).length = q.K.length + 1 := by simp
                        refine Hand.mk (⟨A27, cA27, q.K ++ [(⟨x18.1, x18.2, valsP s (L.getD q.K.length zPh)⟩ : VX Int)]⟩) 6 [3, 4, 0, 5] ⟨agI (by first | rfl | (simp; done) | (dsimp only; rw [hKn]; rfl)), trivial⟩ ⟨rfl, rfl, rfl, rfl, trivial⟩ (by first | rfl | (simp only [List.map_append, List.flatMap_append, hKn]; rfl)) rfl (⟨by dsimp only; omega, kx_step hKm (by omega) rfl, by dsimp only; rw [hKn]; exact all_snoc hall (by first | exact decide_eq_false (by omega) | (simp; omega))⟩) (by dsimp only; omega)
                · refine ExL.nil ?_
                  refine Ex.seq ?_
                  refine Ex.cond_f rfl ?_
                  refine Ex.exit ?_
                  have hKn : q.K.length = L.length := by omega
                  have hKe := kx_fin hKm hKn
                  refine Ex.regSeq (ExL.pures 3 rfl ?_)
                  refine ExL.nil ?_
                  refine Ex.ret ?_
                  refine RetQ.mk ⟨b13, q.A, q.c, q.K⟩ rfl (.tmp rfl (.tmp rfl .nil)) (rfl) [0, 1, 2] (rfl) rfl (hKe)
theorem c_filmOf_f (s : List Int) (hu : Nums 255 s) (As : Option Addr) (cs : Nat) (hls : s.length ≤ maxLen) (L : List VPh) (hLk : ∀ k, k < L.length → OkPh (L.getD k zPh)) (bl cL : Nat) (hlL : L.length ≤ maxLen) (lo hi us : Int) (hc0 : codeF s L lo hi us ≠ 0) : Ret Try.prog 73 [.slice As s.length cs, .slice (some ⟨bl, 0, none⟩) L.length cL, .int .i64 lo, .int .i64 hi, .int .i64 us] (fun w => Rd w As (s.flatMap (eI .u8)) ∧ Rd w (some ⟨bl, 0, none⟩) (L.flatMap encPh)) (fun x : Unit => .tuple #[.pointer none, .int .i64 (codeF s L lo hi us)]) (fun x => []) (fun x => True) := by
  refine Ret.of e_73 Try.func73 rfl Try.ntmps73 rfl rfl (fun w hpre => ?_)
  have hs := hpre.1.base
  have hLr := hpre.2.base
  have hm0 : maxLen = 9223372036854775807 := rfl
  refine Ex.regSeq (ExL.pures 0 rfl ?_)
  refine ExL.op rfl (op_box rfl rfl rfl rfl rfl (fun b1 => ?_))
  refine ExL.pures 2 rfl ?_
  refine ExL.nil ?_
  refine Ex.seq ?_
  refine Ex.regSeq (ExL.pures 0 rfl ?_)
  refine ExL.free (fr_load rfl rfl rfl rfl (CellO.blk (i := 0) rfl rfl)) rfl rfl rfl ?_
  refine ExL.op rfl (op_ret rfl rfl rfl (c_ValidStack _ (by assumption) _ _ (by first | assumption | omega | (unfold maxLen; omega))) (Reads.get (Reads.old hs)) rfl rfl (fun x2 hx2 => ?_))
  refine ExL.pures 2 rfl ?_
  refine ExL.bool (d := 18) rfl (fun hb3 => ?_) (fun hb3 => ?_)
  · replace hb3 := nb_t hb3
    refine ExL.pures 4 rfl ?_
    refine ExL.nil ?_
    refine Ex.cond_t rfl ?_
    refine Ex.regSeq (ExL.pures 2 rfl ?_)
    refine ExL.nil ?_
    refine Ex.ret ?_
    refine RetQ.mk () rfl (.tmp rfl (.tmp rfl .nil)) (t2 rfl (vI (by first | (rw [bad_1 (by assumption)]; first | done | rfl) | (rw [bad_2 (by assumption)]; first | done | rfl) | (rw [bad_3 (by assumption) (by assumption) (by omega)]; first | done | rfl) | (rw [bad_4 (k := q.K.length) hv hnb (by omega) (by omega) (by omega)]; first | done | rfl)))) [] (rfl) rfl (trivial)
  · replace hb3 := nb_f hb3
    refine ExL.pures 1 rfl ?_
    refine ExL.free (fr_makeFunc rfl rfl rfl) rfl rfl rfl ?_
    refine ExL.op rfl (op_ret rfl rfl rfl (c_plContainsFunc s (by first | exact hv | assumption) As cs _ L hLk _ _ (by omega)) (fun w hw => ⟨Reads.get (Reads.old hLr) w hw, Reads.get (Reads.blk (i := 0) rfl) w hw, Reads.get (Reads.old hs) w hw⟩) rfl rfl (fun x4 hx4 => ?_))
    refine ExL.pures 1 rfl ?_
    refine ExL.nil ?_
    refine Ex.cond rfl (fun hb5 => ?_) (fun hb5 => ?_)
    · refine Ex.regSeq (ExL.pures 2 rfl ?_)
      refine ExL.nil ?_
      refine Ex.ret ?_
      refine RetQ.mk () rfl (.tmp rfl (.tmp rfl .nil)) (t2 rfl (vI (by first | (rw [bad_1 (by assumption)]; first | done | rfl) | (rw [bad_2 (by assumption)]; first | done | rfl) | (rw [bad_3 (by assumption) (by assumption) (by omega)]; first | done | rfl) | (rw [bad_4 (k := q.K.length) hv hnb (by omega) (by omega) (by omega)]; first | done | rfl)))) [] (rfl) rfl (trivial)
    · refine Ex.skip ?_
      refine Ex.seq ?_
      refine Ex.regSeq (ExL.pures 2 rfl ?_)
      refine ExL.op rfl (op_ret rfl rfl rfl (c_within _ _ _) (fun _ _ => trivial) rfl rfl (fun x6 hx6 => ?_))
      refine ExL.pures 2 rfl ?_
      refine ExL.bool (d := 27) rfl (fun hb7 => ?_) (fun hb7 => ?_)
      · replace hb7 := nd_t hb7
        refine ExL.pures 19 rfl ?_
        refine ExL.nil ?_
        refine Ex.cond_t rfl ?_
        refine Ex.regSeq (ExL.pures 2 rfl ?_)
        refine ExL.nil ?_
        refine Ex.ret ?_
        refine RetQ.mk () rfl (.tmp rfl (.tmp rfl .nil)) (t2 rfl (vI (by first | (rw [bad_1 (by assumption)]; first | done | rfl) | (rw [bad_2 (by assumption)]; first | done | rfl) | (rw [bad_3 (by assumption) (by assumption) (by omega)]; first | done | rfl) | (rw [bad_4 (k := q.K.length) hv hnb (by omega) (by omega) (by omega)]; first | done | rfl)))) [] (rfl) rfl (trivial)
      · replace hb7 := nd_f hb7
        refine ExL.pures 1 rfl ?_
        refine ExL.lss rfl rfl rfl rfl rfl rfl (fun h8 => ?_) (fun h8 => ?_)
        · refine ExL.pures 17 rfl ?_
          refine ExL.nil ?_
          refine Ex.cond_t rfl ?_
          refine Ex.regSeq (ExL.pures 2 rfl ?_)
          refine ExL.nil ?_
          refine Ex.ret ?_
          refine RetQ.mk () rfl (.tmp rfl (.tmp rfl .nil)) (t2 rfl (vI (by first | (rw [bad_1 (by assumption)]; first | done | rfl) | (rw [bad_2 (by assumption)]; first | done | rfl) | (rw [bad_3 (by assumption) (by assumption) (by omega)]; first | done | rfl) | (rw [bad_4 (k := q.K.length) hv hnb (by omega) (by omega) (by omega)]; first | done | rfl)))) [] (rfl) rfl (trivial)
        · refine ExL.pures 4 rfl ?_
          refine ExL.gtr rfl rfl rfl rfl rfl rfl (fun h9 => ?_) (fun h9 => ?_)
          · refine ExL.pures 12 rfl ?_
            refine ExL.nil ?_
            refine Ex.cond_t rfl ?_
            refine Ex.regSeq (ExL.pures 2 rfl ?_)
            refine ExL.nil ?_
            refine Ex.ret ?_
            refine RetQ.mk () rfl (.tmp rfl (.tmp rfl .nil)) (t2 rfl (vI (by first | (rw [bad_1 (by assumption)]; first | done | rfl) | (rw [bad_2 (by assumption)]; first | done | rfl) | (rw [bad_3 (by assumption) (by assumption) (by omega)]; first | done | rfl) | (rw [bad_4 (k := q.K.length) hv hnb (by omega) (by omega) (by omega)]; first | done | rfl)))) [] (rfl) rfl (trivial)
          · refine ExL.pures 3 rfl ?_
            refine ExL.gtr rfl rfl rfl rfl rfl rfl (fun h10 => ?_) (fun h10 => ?_)
            · refine ExL.pures 8 rfl ?_
              refine ExL.nil ?_
              refine Ex.cond_t rfl ?_
              refine Ex.regSeq (ExL.pures 2 rfl ?_)
              refine ExL.nil ?_
              refine Ex.ret ?_
              refine RetQ.mk () rfl (.tmp rfl (.tmp rfl .nil)) (t2 rfl (vI (by first | (rw [bad_1 (by assumption)]; first | done | rfl) | (rw [bad_2 (by assumption)]; first | done | rfl) | (rw [bad_3 (by assumption) (by assumption) (by omega)]; first | done | rfl) | (rw [bad_4 (k := q.K.length) hv hnb (by omega) (by omega) (by omega)]; first | done | rfl)))) [] (rfl) rfl (trivial)
            · refine ExL.pures 5 rfl ?_
              refine ExL.op rfl (op_ret rfl rfl rfl (c_within _ _ _) (fun _ _ => trivial) rfl rfl (fun x11 hx11 => ?_))
              refine ExL.pures 2 rfl ?_
              refine ExL.nil ?_
              refine Ex.cond rfl (fun hb12 => ?_) (fun hb12 => ?_)
              · replace hb12 := nd_t hb12
                refine Ex.regSeq (ExL.pures 2 rfl ?_)
                refine ExL.nil ?_
                refine Ex.ret ?_
                refine RetQ.mk () rfl (.tmp rfl (.tmp rfl .nil)) (t2 rfl (vI (by first | (rw [bad_1 (by assumption)]; first | done | rfl) | (rw [bad_2 (by assumption)]; first | done | rfl) | (rw [bad_3 (by assumption) (by assumption) (by omega)]; first | done | rfl) | (rw [bad_4 (k := q.K.length) hv hnb (by omega) (by omega) (by omega)]; first | done | rfl)))) [] (rfl) rfl (trivial)
              · replace hb12 := nd_f hb12
                refine Ex.skip ?_
                have hv : validStack s = true := by first | assumption | simp_all
                have hnb : badP s L = false := by first | assumption | simp_all
                have hS := stk hv
                have hLp := okLp hLk hv hnb
                refine Ex.regSeq (ExL.pures 2 rfl ?_)
                refine ExL.free (fr_build rfl rfl rfl rfl) rfl rfl rfl ?_
                refine ExL.op rfl (op_box rfl rfl rfl rfl rfl (fun b13 => ?_))
                refine ExL.pures 1 rfl ?_
                refine ExL.nil ?_
                refine Ex.seq ?_
                refine Ex.nilRow 39 1 ?_
                refine Ex.pile0 ?_
                refine Ex.regSeq (ExL.pures 3 rfl ?_)
                refine ExL.nil ?_
                refine Ex.block ?_
                refine Ex.loopK (X := FSt) (fun q => [(53, .int .i64 q.K.length)]) (fun q => [.blk b13 [.slice q.A q.K.length q.c, .int .i64 lo, .int .i64 hi] 104, .row (.slice q.A q.K.length q.c) 39 1 q.K.length (q.K.flatMap encX), .pile (q.K.map (rwX (eI .i64) 2 1))]) (fun q => q.K.length ≤ L.length ∧ q.K.map (·.xs) = (filmL s L).take q.K.length ∧ ∀ i, i < q.K.length → decide (400 < choV (L.getD i zPh).l s.length) = false) (fun q => L.length - q.K.length) ⟨none, 0, []⟩ [(5, _), (12, _), (51, _), (52, _)] [_] 4 [2, 1, 0, 3] ⟨rfl, trivial⟩ ⟨rfl, rfl, rfl, rfl, trivial⟩ (rfl) rfl ⟨Nat.zero_le _, rfl, fun i hi => by simp at hi⟩ (fun q hI => ?_)
                have hI : q.K.length ≤ L.length ∧ q.K.map (·.xs) = (filmL s L).take q.K.length ∧ ∀ i, i < q.K.length → decide (400 < choV (L.getD i zPh).l s.length) = false := hI
                obtain ⟨hK, hKm, hall⟩ := hI
                refine Ex.regSeq (ExL.pures 0 rfl ?_)
                refine ExL.lss rfl rfl rfl rfl rfl rfl (fun h14 => ?_) (fun h14 => ?_)
                · refine ExL.nil ?_
                  refine Ex.seq ?_
                  refine Ex.cond_t rfl ?_
                  refine Ex.skip ?_
                  refine Ex.seq ?_
                  refine Ex.block ?_
                  refine Ex.regSeq (ExL.pures 0 rfl ?_)
                  refine ExL.free (fr_indexAddrF (Reads.old hLr) encPh_len rfl rfl rfl rfl rfl rfl (by omega)) rfl rfl rfl ?_
                  refine ExL.free (fr_loadN rfl rfl rfl rfl rfl (by first | exact segN (Reads.old hLr) encPh_len rfl zPh (by omega) | exact segF (Reads.old hLr) encPh_len rfl zPh (by omega))) rfl rfl rfl ?_
                  refine ExL.op rfl (op_alloc rfl rfl rfl rfl rfl (fun b15 => ?_))
                  refine ExL.op rfl (op_storeC (i := 0) rfl rfl rfl rfl rfl rfl rfl rfl rfl rfl ?_)
                  refine ExL.nil ?_
                  refine Ex.seq ?_
                  refine Ex.regSeq (ExL.pures 0 rfl ?_)
                  refine ExL.free (fr_load rfl rfl rfl rfl (CellO.blk (i := 4) rfl rfl)) rfl rfl rfl ?_
                  refine ExL.pures 1 rfl ?_
                  refine ExL.op rfl (op_ret rfl rfl rfl (c_choices s (by first | assumption | exact stk (by assumption)) (L.getD q.K.length zPh) (hLp _ (by omega)) (hLk _ (by omega)) _ _ s.length (by omega)) (Reads.get (Reads.blk (i := 0) rfl)) rfl rfl (fun x16 hx16 => ?_))
                  refine ExL.gtr rfl rfl rfl rfl rfl rfl (fun h17 => ?_) (fun h17 => ?_)
                  · refine ExL.nil ?_
                    refine Ex.cond_t rfl ?_
                    refine Ex.regSeq (ExL.pures 2 rfl ?_)
                    refine ExL.nil ?_
                    refine Ex.ret ?_
                    refine RetQ.mk () rfl (.tmp rfl (.tmp rfl .nil)) (t2 rfl (vI (by first | (rw [bad_1 (by assumption)]; first | done | rfl) | (rw [bad_2 (by assumption)]; first | done | rfl) | (rw [bad_3 (by assumption) (by assumption) (by omega)]; first | done | rfl) | (rw [bad_4 (k := q.K.length) hv hnb (by omega) (by omega) (by omega)]; first | done | rfl)))) [] (rfl) rfl (trivial)
                  · refine ExL.nil ?_
                    refine Ex.cond_f rfl ?_
                    refine Ex.skip ?_
                    refine Ex.drawI [0, 3, 4] rfl rfl ?_
                    refine ExD.take (i := 0) rfl (by kernel_rfl) (pureVal_ok rfl) ((List.Sublist.cons_cons _ (List.Sublist.cons _ (List.Sublist.cons _ (List.Sublist.refl _))))) rfl rfl rfl ?_
                    refine ExD.take (i := 1) rfl (by kernel_rfl) (pureVal_ok rfl) ((List.Sublist.cons_cons _ (List.Sublist.cons _ (List.Sublist.cons _ (List.Sublist.refl _))))) rfl rfl rfl ?_
                    refine ExD.take (i := 2) rfl (by kernel_rfl) (pureVal_ok rfl) ((List.Sublist.cons_cons _ (List.Sublist.cons _ (List.Sublist.cons _ (List.Sublist.refl _))))) rfl rfl rfl ?_
                    refine ExD.take (i := 3) rfl (by kernel_rfl) (pureVal_ok rfl) ((List.Sublist.cons_cons _ (List.Sublist.cons _ (List.Sublist.cons _ (List.Sublist.refl _))))) rfl rfl rfl ?_
                    refine ExD.take (i := 5) rfl (by kernel_rfl) (fr_load rfl rfl rfl rfl (CellO.blk (i := 2) rfl rfl)) ((List.Sublist.cons_cons _ (List.Sublist.cons _ (List.Sublist.cons _ (List.Sublist.refl _))))) rfl rfl rfl ?_
                    refine ExD.take (i := 6) rfl (by kernel_rfl) (fr_loadN rfl rfl rfl rfl rfl (SegO.whole (i := 0) rfl)) ((List.Sublist.cons_cons _ (List.Sublist.cons _ (List.Sublist.cons _ (List.Sublist.refl _))))) rfl rfl rfl ?_
                    refine ExD.fork (i := 4) (j := 7) rfl rfl (by kernel_rfl) rfl rfl (Op1.of_free (fr_load rfl rfl rfl rfl (CellO.blk (i := 1) rfl rfl)) rfl rfl ⟨(List.Sublist.cons_cons _ (List.Sublist.cons _ (List.Sublist.cons _ (List.Sublist.refl _)))), ?_⟩) (op_ret rfl rfl rfl (c_values s (by first | assumption | simp_all) _ _ (L.getD q.K.length zPh) (hLk _ (by omega)) (hLp _ (by omega))) (Reads.get (Reads.old hs)) rfl rfl (fun x18 hx18 => ⟨(List.Sublist.cons _ (List.Sublist.cons_cons _ (List.Sublist.cons _ (List.Sublist.cons _ (List.Sublist.refl _))))), ?_⟩))
                    · refine ExD.op (i := 7) rfl (by kernel_rfl) rfl (op_ret rfl rfl rfl (c_values s (by first | assumption | simp_all) _ _ (L.getD q.K.length zPh) (hLk _ (by omega)) (hLp _ (by omega))) (Reads.get (Reads.old hs)) rfl rfl (fun x19 hx19 => ⟨(List.Sublist.cons _ (List.Sublist.cons_cons _ (List.Sublist.cons _ (List.Sublist.cons _ (List.Sublist.refl _))))), ?_⟩))
                      refine ExD.op (i := 8) rfl (by kernel_rfl) rfl (op_buildSlice (sz := 1) rfl rfl rfl rfl rfl rfl rfl rfl (by decide) rfl rfl rfl (fun r20 => ⟨(List.Sublist.cons _ (List.Sublist.cons _ (List.Sublist.cons_cons _ (List.Sublist.cons _ (List.Sublist.cons _ (List.Sublist.refl _)))))), ?_⟩))
                      refine ExD.op (i := 9) rfl (by kernel_rfl) rfl (op_append (sz := 1) (bytes := 24) (i := 4) rfl rfl rfl rfl (Reads.row (i := 0) rfl) rfl (fun e => nomatch e) rfl rfl rfl rfl (by constructor <;> first | omega | (unfold maxLen; omega)) rfl rfl (fun A21 cA21 => ⟨(List.Sublist.cons _ (List.Sublist.cons _ (List.Sublist.cons_cons _ (List.Sublist.cons _ (List.Sublist.cons _ (List.Sublist.refl _)))))), ?_⟩))
                      refine ExD.take (i := 10) rfl (by kernel_rfl) (pureVal_ok rfl) ((List.Sublist.cons _ (List.Sublist.cons _ (List.Sublist.cons_cons _ (List.Sublist.cons _ (List.Sublist.cons _ (List.Sublist.refl _))))))) rfl rfl rfl ?_
                      refine ExD.take (i := 11) rfl (by kernel_rfl) (pureVal_ok rfl) ((List.Sublist.cons _ (List.Sublist.cons _ (List.Sublist.cons_cons _ (List.Sublist.cons _ (List.Sublist.cons _ (List.Sublist.refl _))))))) rfl rfl rfl ?_
                      refine ExD.op (i := 12) rfl (by kernel_rfl) rfl (op_storeC (i := 3) rfl rfl rfl rfl rfl rfl rfl rfl rfl rfl ⟨(List.Sublist.cons _ (List.Sublist.cons _ (List.Sublist.cons_cons _ (List.Sublist.cons _ (List.Sublist.cons _ (List.Sublist.refl _)))))), ?_⟩)
                      refine ExD.done (by kernel_rfl) ?_
                      refine Ex.conv (layEnd (perm_lt (i := 1) (j := 5) rfl rfl rfl)) ?_
                      refine Ex.region (ExL.pures 0 rfl ?_)
                      refine ExL.free (by first | exact fr_add64 rfl rfl rfl (by omega) | exact fr_add rfl rfl rfl) rfl rfl rfl ?_
                      refine ExL.pures 1 rfl ?_
                      refine ExL.nil ?_
                      have hKn : (q.K ++ [(⟨x19.1, x19.2, valsP s (L.getD q.K.length zPh)⟩ : VX Int)]).length = q.K.length + 1 := by simp
                      refine Hand.mk (⟨A21, cA21, q.K ++ [(⟨x19.1, x19.2, valsP s (L.getD q.K.length zPh)⟩ : VX Int)]⟩) 6 [3, 4, 0, 5] ⟨agI (by first | rfl | (simp; done) | (dsimp only; rw [hKn]; rfl)), trivial⟩ ⟨rfl, rfl, rfl, rfl, trivial⟩ (by first | rfl | (simp only [List.map_append, List.flatMap_append, hKn]; rfl)) rfl (⟨by dsimp only; omega, kx_step hKm (by omega) rfl, by dsimp only; rw [hKn]; exact all_snoc hall (by first | exact decide_eq_false (by omega) | (simp; omega))⟩) (by dsimp only; omega)
                    · refine ExD.fork (i := 4) (j := 8) rfl rfl (by kernel_rfl) rfl rfl (Op1.of_free (fr_load rfl rfl rfl rfl (CellO.blk (i := 2) rfl rfl)) rfl rfl ⟨(List.Sublist.cons _ (List.Sublist.cons_cons _ (List.Sublist.cons _ (List.Sublist.cons _ (List.Sublist.refl _))))), ?_⟩) (op_buildSlice (sz := 1) rfl rfl rfl rfl rfl rfl rfl rfl (by decide) rfl rfl rfl (fun r23 => ⟨(List.Sublist.cons _ (List.Sublist.cons _ (List.Sublist.cons_cons _ (List.Sublist.cons _ (List.Sublist.cons _ (List.Sublist.refl _)))))), ?_⟩))
                      · refine ExD.op (i := 8) rfl (by kernel_rfl) rfl (op_buildSlice (sz := 1) rfl rfl rfl rfl rfl rfl rfl rfl (by decide) rfl rfl rfl (fun r24 => ⟨(List.Sublist.cons _ (List.Sublist.cons _ (List.Sublist.cons_cons _ (List.Sublist.cons _ (List.Sublist.cons _ (List.Sublist.refl _)))))), ?_⟩))
                        refine ExD.op (i := 9) rfl (by kernel_rfl) rfl (op_append (sz := 1) (bytes := 24) (i := 4) rfl rfl rfl rfl (Reads.row (i := 0) rfl) rfl (fun e => nomatch e) rfl rfl rfl rfl (by constructor <;> first | omega | (unfold maxLen; omega)) rfl rfl (fun A25 cA25 => ⟨(List.Sublist.cons _ (List.Sublist.cons _ (List.Sublist.cons_cons _ (List.Sublist.cons _ (List.Sublist.cons _ (List.Sublist.refl _)))))), ?_⟩))
                        refine ExD.take (i := 10) rfl (by kernel_rfl) (pureVal_ok rfl) ((List.Sublist.cons _ (List.Sublist.cons _ (List.Sublist.cons_cons _ (List.Sublist.cons _ (List.Sublist.cons _ (List.Sublist.refl _))))))) rfl rfl rfl ?_
                        refine ExD.take (i := 11) rfl (by kernel_rfl) (pureVal_ok rfl) ((List.Sublist.cons _ (List.Sublist.cons _ (List.Sublist.cons_cons _ (List.Sublist.cons _ (List.Sublist.cons _ (List.Sublist.refl _))))))) rfl rfl rfl ?_
                        refine ExD.op (i := 12) rfl (by kernel_rfl) rfl (op_storeC (i := 3) rfl rfl rfl rfl rfl rfl rfl rfl rfl rfl ⟨(List.Sublist.cons _ (List.Sublist.cons _ (List.Sublist.cons_cons _ (List.Sublist.cons _ (List.Sublist.cons _ (List.Sublist.refl _)))))), ?_⟩)
                        refine ExD.done (by kernel_rfl) ?_
                        refine Ex.conv (layEnd (perm_lt (i := 1) (j := 5) rfl rfl rfl)) ?_
                        refine Ex.region (ExL.pures 0 rfl ?_)
                        refine ExL.free (by first | exact fr_add64 rfl rfl rfl (by omega) | exact fr_add rfl rfl rfl) rfl rfl rfl ?_
                        refine ExL.pures 1 rfl ?_
                        refine ExL.nil ?_
                        have hKn : (q.K ++ [(⟨x18.1, x18.2, valsP s (L.getD q.K.length zPh)⟩ : VX Int)]).length = q.K.length + 1 := by simp
                        refine Hand.mk (⟨A25, cA25, q.K ++ [(⟨x18.1, x18.2, valsP s (L.getD q.K.length zPh)⟩ : VX Int)]⟩) 6 [3, 4, 0, 5] ⟨agI (by first | rfl | (simp; done) | (dsimp only; rw [hKn]; rfl)), trivial⟩ ⟨rfl, rfl, rfl, rfl, trivial⟩ (by first | rfl | (simp only [List.map_append, List.flatMap_append, hKn]; rfl)) rfl (⟨by dsimp only; omega, kx_step hKm (by omega) rfl, by dsimp only; rw [hKn]; exact all_snoc hall (by first | exact decide_eq_false (by omega) | (simp; omega))⟩) (by dsimp only; omega)
                      · refine ExD.op (i := 4) rfl (by kernel_rfl) rfl (Op1.of_free (fr_load rfl rfl rfl rfl (CellO.blk (i := 3) rfl rfl)) rfl rfl ⟨(List.Sublist.cons _ (List.Sublist.cons _ (List.Sublist.cons_cons _ (List.Sublist.cons _ (List.Sublist.cons _ (List.Sublist.refl _)))))), ?_⟩)
                        refine ExD.op (i := 9) rfl (by kernel_rfl) rfl (op_append (sz := 1) (bytes := 24) (i := 4) rfl rfl rfl rfl (Reads.row (i := 0) rfl) rfl (fun e => nomatch e) rfl rfl rfl rfl (by constructor <;> first | omega | (unfold maxLen; omega)) rfl rfl (fun A27 cA27 => ⟨(List.Sublist.cons _ (List.Sublist.cons _ (List.Sublist.cons_cons _ (List.Sublist.cons _ (List.Sublist.cons _ (List.Sublist.refl _)))))), ?_⟩))
                        refine ExD.take (i := 10) rfl (by kernel_rfl) (pureVal_ok rfl) ((List.Sublist.cons _ (List.Sublist.cons _ (List.Sublist.cons_cons _ (List.Sublist.cons _ (List.Sublist.cons _ (List.Sublist.refl _))))))) rfl rfl rfl ?_
                        refine ExD.take (i := 11) rfl (by kernel_rfl) (pureVal_ok rfl) ((List.Sublist.cons _ (List.Sublist.cons _ (List.Sublist.cons_cons _ (List.Sublist.cons _ (List.Sublist.cons _ (List.Sublist.refl _))))))) rfl rfl rfl ?_
                        refine ExD.op (i := 12) rfl (by kernel_rfl) rfl (op_storeC (i := 3) rfl rfl rfl rfl rfl rfl rfl rfl rfl rfl ⟨(List.Sublist.cons _ (List.Sublist.cons _ (List.Sublist.cons_cons _ (List.Sublist.cons _ (List.Sublist.cons _ (List.Sublist.refl _)))))), ?_⟩)
                        refine ExD.done (by kernel_rfl) ?_
                        refine Ex.conv (layEnd (perm_lt (i := 1) (j := 5) rfl rfl rfl)) ?_
                        refine Ex.region (ExL.pures 0 rfl ?_)
                        refine ExL.free (by first | exact fr_add64 rfl rfl rfl (by omega) | exact fr_add rfl rfl rfl) rfl rfl rfl ?_
                        refine ExL.pures 1 rfl ?_
                        refine ExL.nil ?_
                        have hKn : (q.K ++ [(⟨x18.1, x18.2, valsP s (L.getD q.K.length zPh)⟩ : VX Int)]).length = q.K.length + 1 := by simp
                        refine Hand.mk (⟨A27, cA27, q.K ++ [(⟨x18.1, x18.2, valsP s (L.getD q.K.length zPh)⟩ : VX Int)]⟩) 6 [3, 4, 0, 5] ⟨agI (by first | rfl | (simp; done) | (dsimp only; rw [hKn]; rfl)), trivial⟩ ⟨rfl, rfl, rfl, rfl, trivial⟩ (by first | rfl | (simp only [List.map_append, List.flatMap_append, hKn]; rfl)) rfl (⟨by dsimp only; omega, kx_step hKm (by omega) rfl, by dsimp only; rw [hKn]; exact all_snoc hall (by first | exact decide_eq_false (by omega) | (simp; omega))⟩) (by dsimp only; omega)
                · refine ExL.nil ?_
                  refine Ex.seq ?_
                  refine Ex.cond_f rfl ?_
                  refine Ex.exit ?_
                  have hKn : q.K.length = L.length := by omega
                  have hKe := kx_fin hKm hKn
                  exfalso; exact hc0 (cf_all hv hnb (by omega) (k := q.K.length) (by omega) hall)
theorem e_74 : Enters Try.prog 74 := Enters.of Try.func74 rfl
theorem c_goes (v0 : Value) (lo hi : Int) (hlh : 0 ≤ lo ∧ hi ≤ 1000000000000) (b : Nat) (u v : Int) (hu : 0 ≤ u ∧ u ≤ 1000000000000) (hv : 0 ≤ v ∧ v ≤ 1000000000000) : Ret Try.prog 74 [.pointer (some ⟨b, 0, none⟩), .int .i64 u, .int .i64 v] (fun w => Rd w (some ⟨b, 0, none⟩) [v0, .int .i64 lo, .int .i64 hi]) (fun x : Unit => .bool (goesB lo hi u v)) (fun x => []) (fun x => True) := by
  refine Ret.of e_74 Try.func74 rfl Try.ntmps74 rfl rfl (fun w hpre => ?_)
  have hpt := hpre.base
  refine Ex.regSeq (ExL.pures 1 rfl ?_)
  refine ExL.nil ?_
  refine Ex.drawSeqM rfl ?_
  refine ExD.take (i := 0) rfl (by kernel_rfl) (pureVal_ok rfl) ((List.Sublist.refl _)) rfl rfl rfl ?_
  refine ExD.take (i := 1) rfl (by kernel_rfl) (pureVal_ok rfl) ((List.Sublist.refl _)) rfl rfl rfl ?_
  refine ExD.take (i := 2) rfl (by kernel_rfl) (by first | exact fr_sub64 rfl rfl rfl (by omega) | exact fr_sub rfl rfl rfl) ((List.Sublist.refl _)) rfl rfl rfl ?_
  refine ExD.take (i := 3) rfl (by kernel_rfl) (pureVal_ok rfl) ((List.Sublist.refl _)) rfl rfl rfl ?_
  refine ExD.take (i := 4) rfl (by kernel_rfl) (pureVal_ok rfl) ((List.Sublist.refl _)) rfl rfl rfl ?_
  refine ExD.take (i := 5) rfl (by kernel_rfl) (pureVal_ok rfl) ((List.Sublist.refl _)) rfl rfl rfl ?_
  refine ExD.take (i := 6) rfl (by kernel_rfl) (fr_load rfl rfl rfl rfl (CellO.at 1 (Reads.old hpt) rfl)) ((List.Sublist.refl _)) rfl rfl rfl ?_
  refine ExD.take (i := 7) rfl (by kernel_rfl) (pureVal_ok rfl) ((List.Sublist.refl _)) rfl rfl rfl ?_
  refine ExD.take (i := 8) rfl (by kernel_rfl) (pureVal_ok rfl) ((List.Sublist.refl _)) rfl rfl rfl ?_
  refine ExD.take (i := 9) rfl (by kernel_rfl) (pureVal_ok rfl) ((List.Sublist.refl _)) rfl rfl rfl ?_
  refine ExD.take (i := 10) rfl (by kernel_rfl) (fr_load rfl rfl rfl rfl (CellO.at 2 (Reads.old hpt) rfl)) ((List.Sublist.refl _)) rfl rfl rfl ?_
  refine ExD.op (i := 11) rfl (by kernel_rfl) rfl (op_ret rfl rfl rfl (c_within _ _ _) (fun _ _ => trivial) rfl rfl (fun x1 hx1 => ⟨(List.Sublist.refl _), ?_⟩))
  refine ExD.take (i := 12) rfl (by kernel_rfl) (pureVal_ok rfl) ((List.Sublist.refl _)) rfl rfl rfl ?_
  refine ExD.done (by kernel_rfl) ?_
  refine Ex.ret ?_
  refine RetQ.mk () rfl (.tmp rfl .nil) (rfl) [] (rfl) rfl (trivial)
theorem e_72 : Enters Try.prog 72 := Enters.of Try.func72 rfl
theorem c_follows (v0 v1 : Value) (lo hi : Int) (hlh : 0 ≤ lo ∧ hi ≤ 1000000000000) (b : Nat) (u v : Int) (hu : 0 ≤ u ∧ u ≤ 1000000000000) (hv : 0 ≤ v ∧ v ≤ 1000000000000) : Ret Try.prog 72 [.pointer (some ⟨b, 0, none⟩), .int .i64 u, .int .i64 v] (fun w => Rd w (some ⟨b, 0, none⟩) [v0, v1, .int .i64 lo, .int .i64 hi]) (fun x : Unit => .bool (goesB lo hi u v)) (fun x => []) (fun x => True) := by
  refine Ret.of e_72 Try.func72 rfl Try.ntmps72 rfl rfl (fun w hpre => ?_)
  have hpt := hpre.base
  refine Ex.regSeq (ExL.pures 1 rfl ?_)
  refine ExL.nil ?_
  refine Ex.drawSeqM rfl ?_
  refine ExD.take (i := 0) rfl (by kernel_rfl) (pureVal_ok rfl) ((List.Sublist.refl _)) rfl rfl rfl ?_
  refine ExD.take (i := 1) rfl (by kernel_rfl) (pureVal_ok rfl) ((List.Sublist.refl _)) rfl rfl rfl ?_
  refine ExD.take (i := 2) rfl (by kernel_rfl) (by first | exact fr_sub64 rfl rfl rfl (by omega) | exact fr_sub rfl rfl rfl) ((List.Sublist.refl _)) rfl rfl rfl ?_
  refine ExD.take (i := 3) rfl (by kernel_rfl) (pureVal_ok rfl) ((List.Sublist.refl _)) rfl rfl rfl ?_
  refine ExD.take (i := 4) rfl (by kernel_rfl) (pureVal_ok rfl) ((List.Sublist.refl _)) rfl rfl rfl ?_
  refine ExD.take (i := 5) rfl (by kernel_rfl) (pureVal_ok rfl) ((List.Sublist.refl _)) rfl rfl rfl ?_
  refine ExD.take (i := 6) rfl (by kernel_rfl) (fr_load rfl rfl rfl rfl (CellO.at 2 (Reads.old hpt) rfl)) ((List.Sublist.refl _)) rfl rfl rfl ?_
  refine ExD.take (i := 7) rfl (by kernel_rfl) (pureVal_ok rfl) ((List.Sublist.refl _)) rfl rfl rfl ?_
  refine ExD.take (i := 8) rfl (by kernel_rfl) (pureVal_ok rfl) ((List.Sublist.refl _)) rfl rfl rfl ?_
  refine ExD.take (i := 9) rfl (by kernel_rfl) (pureVal_ok rfl) ((List.Sublist.refl _)) rfl rfl rfl ?_
  refine ExD.take (i := 10) rfl (by kernel_rfl) (fr_load rfl rfl rfl rfl (CellO.at 3 (Reads.old hpt) rfl)) ((List.Sublist.refl _)) rfl rfl rfl ?_
  refine ExD.op (i := 11) rfl (by kernel_rfl) rfl (op_ret rfl rfl rfl (c_l00In _ _ _) (fun _ _ => trivial) rfl rfl (fun x1 hx1 => ⟨(List.Sublist.refl _), ?_⟩))
  refine ExD.take (i := 12) rfl (by kernel_rfl) (pureVal_ok rfl) ((List.Sublist.refl _)) rfl rfl rfl ?_
  refine ExD.done (by kernel_rfl) ?_
  refine Ex.ret ?_
  refine RetQ.mk () rfl (.tmp rfl .nil) (rfl) [] (rfl) rfl (trivial)
theorem e_71 : Enters Try.prog 71 := Enters.of Try.func71 rfl
theorem c_l05Begin_t (s : List Int) (hu : Nums 255 s) (As : Option Addr) (cs : Nat) (hls : s.length ≤ maxLen) (L : List VPh) (hLk : ∀ k, k < L.length → OkPh (L.getD k zPh)) (bl cL : Nat) (hlL : L.length ≤ maxLen) (lo hi : Int) (hc0 : codeF s L lo hi lo = 0) : Ret Try.prog 71 [.slice As s.length cs, .slice (some ⟨bl, 0, none⟩) L.length cL, .int .i64 lo, .int .i64 hi] (fun w => Rd w As (s.flatMap (eI .u8)) ∧ Rd w (some ⟨bl, 0, none⟩) (L.flatMap encPh)) (fun x : FX => .tuple #[.pointer (some ⟨x.b, 0, none⟩), .int .i64 0]) (fun x => [.blk x.b [.slice As s.length cs, .slice x.A x.K.length x.c, .int .i64 lo, .int .i64 hi] 98, .row (.slice x.A x.K.length x.c) 39 1 x.K.length (x.K.flatMap encX), .pile (x.K.map (rwX (eI .i64) 2 1))]) (fun x => x.K.map (·.xs) = filmL s L) := by
  refine Ret.of e_71 Try.func71 rfl Try.ntmps71 rfl rfl (fun w hpre => ?_)
  have hs := hpre.1.base
  have hLr := hpre.2.base
  have hm0 : maxLen = 9223372036854775807 := rfl
  obtain ⟨hv, hnb, hrg, hmy⟩ := cf_of hc0
  have hS := stk hv
  have hLp := okLp hLk hv hnb
  refine Ex.regSeq (ExL.pures 2 rfl ?_)
  refine ExL.nil ?_
  refine Ex.regSeq (ExL.pures 3 rfl ?_)
  refine ExL.free (fr_build rfl rfl rfl rfl) rfl rfl rfl ?_
  refine ExL.op rfl (op_box rfl rfl rfl rfl rfl (fun b1 => ?_))
  refine ExL.pures 1 rfl ?_
  refine ExL.nil ?_
  refine Ex.regSeq (ExL.pures 1 rfl ?_)
  refine ExL.op rfl (op_ret rfl rfl rfl (c_l01Ok _ (by assumption) _ _ (by first | assumption | omega | (unfold maxLen; omega))) (Reads.get (Reads.old hs)) rfl rfl (fun x2 hx2 => ?_))
  refine ExL.pures 1 rfl ?_
  refine ExL.nil ?_
  refine Ex.seq ?_
  refine Ex.regSeq (ExL.pures 1 rfl ?_)
  refine ExL.nil ?_
  refine Ex.block ?_
  refine Ex.loopK (X := Nat) (fun k => [(11, .bool (okK s L k)), (12, .int .i64 k)]) (fun k => []) (fun k => k ≤ L.length) (fun k => L.length - k) 0 [(0, _), (1, _), (2, _), (3, _), (8, _), (9, _), (10, _)] [_] 1 [0] ⟨agB (okK_0 s L).symm, rfl, trivial⟩ ⟨rfl, rfl, rfl, rfl, rfl, rfl, rfl, trivial⟩ (rfl) rfl (Nat.zero_le _) (fun k hI => ?_)
  have hI : k ≤ L.length := hI
  refine Ex.seq ?_
  refine Ex.regSeq (ExL.pures 3 rfl ?_)
  refine ExL.lss rfl rfl rfl rfl rfl rfl (fun h3 => ?_) (fun h3 => ?_)
  · refine ExL.pures 3 rfl ?_
    refine ExL.nil ?_
    refine Ex.cond rfl (fun hb4 => ?_) (fun hb4 => ?_)
    · rw [hb4]
      refine Ex.skip ?_
      refine Ex.seq ?_
      refine Ex.block ?_
      have hv6 := okK_v (s := s) (L := L) (k := k) (by assumption)
      refine Ex.region (ExL.pures 3 rfl ?_)
      refine ExL.free (fr_indexAddrP (Reads.old hLr) encPh_len rfl rfl rfl rfl rfl rfl (by omega)) rfl rfl rfl ?_
      refine ExL.op rfl (op_ret rfl rfl rfl (c_l05Ok s (by first | assumption | simp_all) _ _ (L.getD k zPh) (hLk _ (by omega)) _ _) (fun w hw => ⟨Reads.get (Reads.old hs) w hw, Reads.get (Reads.elemP (Reads.old hLr) encPh_len zPh (by omega)) w hw⟩) rfl rfl (fun x5 hx5 => ?_))
      refine ExL.pures 1 rfl ?_
      refine ExL.nil ?_
      refine Ex.region (ExL.pures 1 rfl ?_)
      refine ExL.free (by first | exact fr_add64 rfl rfl rfl (by omega) | exact fr_add rfl rfl rfl) rfl rfl rfl ?_
      refine ExL.pures 1 rfl ?_
      refine ExL.nil ?_
      refine Hand.mk (k + 1) 1 [0] ⟨agB (okK_s (by assumption)).symm, rfl, trivial⟩ ⟨rfl, rfl, rfl, rfl, rfl, rfl, rfl, trivial⟩ (rfl) rfl (by omega) (by omega)
    · rw [hb4]
      refine Ex.exit ?_
      refine Ex.seq ?_
      refine Ex.regSeq (ExL.pures 2 rfl ?_)
      refine ExL.nil ?_
      refine Ex.cond_t rfl ?_
      exfalso; have h9 := okK_no (s := s) (L := L) (k := k) (by omega) (by assumption); rw [hv, hnb] at h9; cases h9
  · refine ExL.pures 3 rfl ?_
    refine ExL.nil ?_
    refine Ex.cond_f rfl ?_
    refine Ex.exit ?_
    refine Ex.seq ?_
    refine Ex.regSeq (ExL.pures 2 rfl ?_)
    refine ExL.nil ?_
    refine Ex.cond rfl (fun hb6 => ?_) (fun hb6 => ?_)
    · replace hb6 := nb_t hb6
      exfalso; have h9 := okK_no (s := s) (L := L) (k := k) (by omega) (by assumption); rw [hv, hnb] at h9; cases h9
    · replace hb6 := nb_f hb6
      refine Ex.skip ?_
      refine Ex.seq ?_
      refine Ex.regSeq (ExL.pures 2 rfl ?_)
      refine ExL.op rfl (op_ret rfl rfl rfl (c_l00In _ _ _) (fun _ _ => trivial) rfl rfl (fun x7 hx7 => ?_))
      refine ExL.pures 2 rfl ?_
      refine ExL.bool (d := 42) rfl (fun hb8 => ?_) (fun hb8 => ?_)
      · replace hb8 := nd_t hb8
        refine ExL.pures 10 rfl ?_
        refine ExL.nil ?_
        refine Ex.cond_t rfl ?_
        exfalso; omega
      · replace hb8 := nd_f hb8
        refine ExL.pures 1 rfl ?_
        refine ExL.op rfl (op_ret rfl rfl rfl (c_l00In _ _ _) (fun _ _ => trivial) rfl rfl (fun x9 hx9 => ?_))
        refine ExL.pures 3 rfl ?_
        refine ExL.bool (d := 47) rfl (fun hb10 => ?_) (fun hb10 => ?_)
        · replace hb10 := nd_t hb10
          refine ExL.pures 5 rfl ?_
          refine ExL.nil ?_
          refine Ex.cond_t rfl ?_
          exfalso; omega
        · replace hb10 := nd_f hb10
          refine ExL.pures 2 rfl ?_
          refine ExL.op rfl (op_ret rfl rfl rfl (c_l00In _ _ _) (fun _ _ => trivial) rfl rfl (fun x11 hx11 => ?_))
          refine ExL.pures 2 rfl ?_
          refine ExL.nil ?_
          refine Ex.cond rfl (fun hb12 => ?_) (fun hb12 => ?_)
          · replace hb12 := nd_t hb12
            exfalso; omega
          · replace hb12 := nd_f hb12
            refine Ex.skip ?_
            refine Ex.seq ?_
            refine Ex.nilRow 39 1 ?_
            refine Ex.pile0 ?_
            refine Ex.regSeq (ExL.pures 1 rfl ?_)
            refine ExL.nil ?_
            refine Ex.block ?_
            refine Ex.loopK (X := FSt) (fun q => [(13, .int .i64 q.K.length)]) (fun q => [.blk b1 [.slice As s.length cs, .slice q.A q.K.length q.c, .int .i64 lo, .int .i64 hi] 98, .row (.slice q.A q.K.length q.c) 39 1 q.K.length (q.K.flatMap encX), .pile (q.K.map (rwX (eI .i64) 2 1))]) (fun q => q.K.length ≤ L.length ∧ q.K.map (·.xs) = (filmL s L).take q.K.length ∧ ∀ i, i < q.K.length → decide (400 < choV (L.getD i zPh).l s.length) = false) (fun q => L.length - q.K.length) ⟨none, 0, []⟩ [(0, _), (1, _), (10, _)] [] 3 [2, 1, 0] ⟨rfl, trivial⟩ ⟨rfl, rfl, rfl, trivial⟩ (rfl) rfl ⟨Nat.zero_le _, rfl, fun i hi => by simp at hi⟩ (fun q hI => ?_)
            have hI : q.K.length ≤ L.length ∧ q.K.map (·.xs) = (filmL s L).take q.K.length ∧ ∀ i, i < q.K.length → decide (400 < choV (L.getD i zPh).l s.length) = false := hI
            obtain ⟨hK, hKm, hall⟩ := hI
            refine Ex.seq ?_
            refine Ex.regSeq (ExL.pures 3 rfl ?_)
            refine ExL.lss rfl rfl rfl rfl rfl rfl (fun h13 => ?_) (fun h13 => ?_)
            · refine ExL.nil ?_
              refine Ex.cond_t rfl ?_
              refine Ex.skip ?_
              refine Ex.seq ?_
              refine Ex.block ?_
              refine Ex.seq ?_
              refine Ex.regSeq (ExL.pures 2 rfl ?_)
              refine ExL.free (fr_indexAddrP (Reads.old hLr) encPh_len rfl rfl rfl rfl rfl rfl (by omega)) rfl rfl rfl ?_
              refine ExL.pures 2 rfl ?_
              refine ExL.op rfl (op_ret rfl rfl rfl (c_l05Choices s (by first | assumption | exact stk (by assumption)) (L.getD q.K.length zPh) (hLp _ (by omega)) (hLk _ (by omega)) _ _ s.length (by omega)) (Reads.get (Reads.elemP (Reads.old hLr) encPh_len zPh (by omega))) rfl rfl (fun x14 hx14 => ?_))
              refine ExL.gtr rfl rfl rfl rfl rfl rfl (fun h15 => ?_) (fun h15 => ?_)
              · refine ExL.nil ?_
                refine Ex.cond_t rfl ?_
                have h9 := any_at (d := zPh) hmy (k := q.K.length) (by omega)
                rw [decide_eq_false_iff_not] at h9
                exfalso; omega
              · refine ExL.nil ?_
                refine Ex.cond_f rfl ?_
                refine Ex.skip ?_
                refine Ex.drawI [2] rfl rfl ?_
                refine ExD.take (i := 0) rfl (by kernel_rfl) (pureVal_ok rfl) ((List.Sublist.cons _ (List.Sublist.cons _ (List.Sublist.refl _)))) rfl rfl rfl ?_
                refine ExD.take (i := 1) rfl (by kernel_rfl) (pureVal_ok rfl) ((List.Sublist.cons _ (List.Sublist.cons _ (List.Sublist.refl _)))) rfl rfl rfl ?_
                refine ExD.take (i := 2) rfl (by kernel_rfl) (pureVal_ok rfl) ((List.Sublist.cons _ (List.Sublist.cons _ (List.Sublist.refl _)))) rfl rfl rfl ?_
                refine ExD.take (i := 3) rfl (by kernel_rfl) (pureVal_ok rfl) ((List.Sublist.cons _ (List.Sublist.cons _ (List.Sublist.refl _)))) rfl rfl rfl ?_
                refine ExD.take (i := 5) rfl (by kernel_rfl) (pureVal_ok rfl) ((List.Sublist.cons _ (List.Sublist.cons _ (List.Sublist.refl _)))) rfl rfl rfl ?_
                refine ExD.take (i := 6) rfl (by kernel_rfl) (pureVal_ok rfl) ((List.Sublist.cons _ (List.Sublist.cons _ (List.Sublist.refl _)))) rfl rfl rfl ?_
                refine ExD.take (i := 7) rfl (by kernel_rfl) (pureVal_ok rfl) ((List.Sublist.cons _ (List.Sublist.cons _ (List.Sublist.refl _)))) rfl rfl rfl ?_
                refine ExD.take (i := 8) rfl (by kernel_rfl) (fr_indexAddrP (Reads.old hLr) encPh_len rfl rfl rfl rfl rfl rfl (by omega)) ((List.Sublist.cons _ (List.Sublist.cons _ (List.Sublist.refl _)))) rfl rfl rfl ?_
                refine ExD.fork (i := 4) (j := 9) rfl rfl (by kernel_rfl) rfl rfl (Op1.of_free (fr_load rfl rfl rfl rfl (CellO.blk (i := 0) rfl rfl)) rfl rfl ⟨(List.Sublist.cons _ (List.Sublist.cons _ (List.Sublist.refl _))), ?_⟩) (op_ret rfl rfl rfl (c_l05Values s (by first | assumption | simp_all) _ _ (L.getD q.K.length zPh) (hLk _ (by omega)) _ _ (hLp _ (by omega))) (fun w hw => ⟨Reads.get (Reads.old hs) w hw, Reads.get (Reads.elemP (Reads.old hLr) encPh_len zPh (by omega)) w hw⟩) rfl rfl (fun x16 hx16 => ⟨(List.Sublist.cons _ (List.Sublist.cons _ (List.Sublist.cons _ (List.Sublist.refl _)))), ?_⟩))
                · refine ExD.op (i := 9) rfl (by kernel_rfl) rfl (op_ret rfl rfl rfl (c_l05Values s (by first | assumption | simp_all) _ _ (L.getD q.K.length zPh) (hLk _ (by omega)) _ _ (hLp _ (by omega))) (fun w hw => ⟨Reads.get (Reads.old hs) w hw, Reads.get (Reads.elemP (Reads.old hLr) encPh_len zPh (by omega)) w hw⟩) rfl rfl (fun x17 hx17 => ⟨(List.Sublist.cons _ (List.Sublist.cons _ (List.Sublist.cons _ (List.Sublist.refl _)))), ?_⟩))
                  refine ExD.op (i := 10) rfl (by kernel_rfl) rfl (op_buildSlice (sz := 1) rfl rfl rfl rfl rfl rfl rfl rfl (by decide) rfl rfl rfl (fun r18 => ⟨(List.Sublist.cons _ (List.Sublist.cons _ (List.Sublist.cons _ (List.Sublist.cons _ (List.Sublist.refl _))))), ?_⟩))
                  refine ExD.op (i := 11) rfl (by kernel_rfl) rfl (op_append (sz := 1) (bytes := 24) (i := 3) rfl rfl rfl rfl (Reads.row (i := 0) rfl) rfl (fun e => nomatch e) rfl rfl rfl rfl (by constructor <;> first | omega | (unfold maxLen; omega)) rfl rfl (fun A19 cA19 => ⟨(List.Sublist.cons _ (List.Sublist.cons _ (List.Sublist.cons _ (List.Sublist.cons _ (List.Sublist.refl _))))), ?_⟩))
                  refine ExD.take (i := 12) rfl (by kernel_rfl) (pureVal_ok rfl) ((List.Sublist.cons _ (List.Sublist.cons _ (List.Sublist.cons _ (List.Sublist.cons _ (List.Sublist.refl _)))))) rfl rfl rfl ?_
                  refine ExD.take (i := 13) rfl (by kernel_rfl) (pureVal_ok rfl) ((List.Sublist.cons _ (List.Sublist.cons _ (List.Sublist.cons _ (List.Sublist.cons _ (List.Sublist.refl _)))))) rfl rfl rfl ?_
                  refine ExD.op (i := 14) rfl (by kernel_rfl) rfl (op_storeC (i := 2) rfl rfl rfl rfl rfl rfl rfl rfl rfl rfl ⟨(List.Sublist.cons _ (List.Sublist.cons _ (List.Sublist.cons _ (List.Sublist.cons _ (List.Sublist.refl _))))), ?_⟩)
                  refine ExD.done (by kernel_rfl) ?_
                  refine Ex.conv (layEnd (perm_lt (i := 1) (j := 4) rfl rfl rfl)) ?_
                  refine Ex.region (ExL.pures 1 rfl ?_)
                  refine ExL.free (by first | exact fr_add64 rfl rfl rfl (by omega) | exact fr_add rfl rfl rfl) rfl rfl rfl ?_
                  refine ExL.pures 1 rfl ?_
                  refine ExL.nil ?_
                  have hKn : (q.K ++ [(⟨x17.1, x17.2, valsP s (L.getD q.K.length zPh)⟩ : VX Int)]).length = q.K.length + 1 := by simp
                  refine Hand.mk (⟨A19, cA19, q.K ++ [(⟨x17.1, x17.2, valsP s (L.getD q.K.length zPh)⟩ : VX Int)]⟩) 4 [2, 3, 0] ⟨agI (by first | rfl | (simp; done) | (dsimp only; rw [hKn]; rfl)), trivial⟩ ⟨rfl, rfl, rfl, trivial⟩ (by first | rfl | (simp only [List.map_append, List.flatMap_append, hKn]; rfl)) rfl (⟨by dsimp only; omega, kx_step hKm (by omega) rfl, by dsimp only; rw [hKn]; exact all_snoc hall (by first | exact decide_eq_false (by omega) | (simp; omega))⟩) (by dsimp only; omega)
                · refine ExD.fork (i := 4) (j := 10) rfl rfl (by kernel_rfl) rfl rfl (Op1.of_free (fr_load rfl rfl rfl rfl (CellO.blk (i := 1) rfl rfl)) rfl rfl ⟨(List.Sublist.cons _ (List.Sublist.cons _ (List.Sublist.cons _ (List.Sublist.refl _)))), ?_⟩) (op_buildSlice (sz := 1) rfl rfl rfl rfl rfl rfl rfl rfl (by decide) rfl rfl rfl (fun r21 => ⟨(List.Sublist.cons _ (List.Sublist.cons _ (List.Sublist.cons _ (List.Sublist.cons _ (List.Sublist.refl _))))), ?_⟩))
                  · refine ExD.op (i := 10) rfl (by kernel_rfl) rfl (op_buildSlice (sz := 1) rfl rfl rfl rfl rfl rfl rfl rfl (by decide) rfl rfl rfl (fun r22 => ⟨(List.Sublist.cons _ (List.Sublist.cons _ (List.Sublist.cons _ (List.Sublist.cons _ (List.Sublist.refl _))))), ?_⟩))
                    refine ExD.op (i := 11) rfl (by kernel_rfl) rfl (op_append (sz := 1) (bytes := 24) (i := 3) rfl rfl rfl rfl (Reads.row (i := 0) rfl) rfl (fun e => nomatch e) rfl rfl rfl rfl (by constructor <;> first | omega | (unfold maxLen; omega)) rfl rfl (fun A23 cA23 => ⟨(List.Sublist.cons _ (List.Sublist.cons _ (List.Sublist.cons _ (List.Sublist.cons _ (List.Sublist.refl _))))), ?_⟩))
                    refine ExD.take (i := 12) rfl (by kernel_rfl) (pureVal_ok rfl) ((List.Sublist.cons _ (List.Sublist.cons _ (List.Sublist.cons _ (List.Sublist.cons _ (List.Sublist.refl _)))))) rfl rfl rfl ?_
                    refine ExD.take (i := 13) rfl (by kernel_rfl) (pureVal_ok rfl) ((List.Sublist.cons _ (List.Sublist.cons _ (List.Sublist.cons _ (List.Sublist.cons _ (List.Sublist.refl _)))))) rfl rfl rfl ?_
                    refine ExD.op (i := 14) rfl (by kernel_rfl) rfl (op_storeC (i := 2) rfl rfl rfl rfl rfl rfl rfl rfl rfl rfl ⟨(List.Sublist.cons _ (List.Sublist.cons _ (List.Sublist.cons _ (List.Sublist.cons _ (List.Sublist.refl _))))), ?_⟩)
                    refine ExD.done (by kernel_rfl) ?_
                    refine Ex.conv (layEnd (perm_lt (i := 1) (j := 4) rfl rfl rfl)) ?_
                    refine Ex.region (ExL.pures 1 rfl ?_)
                    refine ExL.free (by first | exact fr_add64 rfl rfl rfl (by omega) | exact fr_add rfl rfl rfl) rfl rfl rfl ?_
                    refine ExL.pures 1 rfl ?_
                    refine ExL.nil ?_
                    have hKn : (q.K ++ [(⟨x16.1, x16.2, valsP s (L.getD q.K.length zPh)⟩ : VX Int)]).length = q.K.length + 1 := by simp
                    refine Hand.mk (⟨A23, cA23, q.K ++ [(⟨x16.1, x16.2, valsP s (L.getD q.K.length zPh)⟩ : VX Int)]⟩) 4 [2, 3, 0] ⟨agI (by first | rfl | (simp; done) | (dsimp only; rw [hKn]; rfl)), trivial⟩ ⟨rfl, rfl, rfl, trivial⟩ (by first | rfl | (simp only [List.map_append, List.flatMap_append, hKn]; rfl)) rfl (⟨by dsimp only; omega, kx_step hKm (by omega) rfl, by dsimp only; rw [hKn]; exact all_snoc hall (by first | exact decide_eq_false (by omega) | (simp; omega))⟩) (by dsimp only; omega)
                  · refine ExD.op (i := 4) rfl (by kernel_rfl) rfl (Op1.of_free (fr_load rfl rfl rfl rfl (CellO.blk (i := 2) rfl rfl)) rfl rfl ⟨(List.Sublist.cons _ (List.Sublist.cons _ (List.Sublist.cons _ (List.Sublist.cons _ (List.Sublist.refl _))))), ?_⟩)
                    refine ExD.op (i := 11) rfl (by kernel_rfl) rfl (op_append (sz := 1) (bytes := 24) (i := 3) rfl rfl rfl rfl (Reads.row (i := 0) rfl) rfl (fun e => nomatch e) rfl rfl rfl rfl (by constructor <;> first | omega | (unfold maxLen; omega)) rfl rfl (fun A25 cA25 => ⟨(List.Sublist.cons _ (List.Sublist.cons _ (List.Sublist.cons _ (List.Sublist.cons _ (List.Sublist.refl _))))), ?_⟩))
                    refine ExD.take (i := 12) rfl (by kernel_rfl) (pureVal_ok rfl) ((List.Sublist.cons _ (List.Sublist.cons _ (List.Sublist.cons _ (List.Sublist.cons _ (List.Sublist.refl _)))))) rfl rfl rfl ?_
                    refine ExD.take (i := 13) rfl (by kernel_rfl) (pureVal_ok rfl) ((List.Sublist.cons _ (List.Sublist.cons _ (List.Sublist.cons _ (List.Sublist.cons _ (List.Sublist.refl _)))))) rfl rfl rfl ?_
                    refine ExD.op (i := 14) rfl (by kernel_rfl) rfl (op_storeC (i := 2) rfl rfl rfl rfl rfl rfl rfl rfl rfl rfl ⟨(List.Sublist.cons _ (List.Sublist.cons _ (List.Sublist.cons _ (List.Sublist.cons _ (List.Sublist.refl _))))), ?_⟩)
                    refine ExD.done (by kernel_rfl) ?_
                    refine Ex.conv (layEnd (perm_lt (i := 1) (j := 4) rfl rfl rfl)) ?_
                    refine Ex.region (ExL.pures 1 rfl ?_)
                    refine ExL.free (by first | exact fr_add64 rfl rfl rfl (by omega) | exact fr_add rfl rfl rfl) rfl rfl rfl ?_
                    refine ExL.pures 1 rfl ?_
                    refine ExL.nil ?_
                    have hKn : (q.K ++ [(⟨x16.1, x16.2, valsP s (L.getD q.K.length zPh)⟩ : VX Int)]).length = q.K.length + 1 := by simp
                    refine Hand.mk (⟨A25, cA25, q.K ++ [(⟨x16.1, x16.2, valsP s (L.getD q.K.length zPh)⟩ : VX Int)]⟩) 4 [2, 3, 0] ⟨agI (by first | rfl | (simp; done) | (dsimp only; rw [hKn]; rfl)), trivial⟩ ⟨rfl, rfl, rfl, trivial⟩ (by first | rfl | (simp only [List.map_append, List.flatMap_append, hKn]; rfl)) rfl (⟨by dsimp only; omega, kx_step hKm (by omega) rfl, by dsimp only; rw [hKn]; exact all_snoc hall (by first | exact decide_eq_false (by omega) | (simp; omega))⟩) (by dsimp only; omega)
            · refine ExL.nil ?_
              refine Ex.cond_f rfl ?_
              refine Ex.exit ?_
              have hKn : q.K.length = L.length := by omega
              have hKe := kx_fin hKm hKn
              refine Ex.regSeq (ExL.pures 3 rfl ?_)
              refine ExL.nil ?_
              refine Ex.ret ?_
              refine RetQ.mk ⟨b1, q.A, q.c, q.K⟩ rfl (.tmp rfl (.tmp rfl .nil)) (rfl) [0, 1, 2] (rfl) rfl (hKe)
theorem c_l05Begin_f (s : List Int) (hu : Nums 255 s) (As : Option Addr) (cs : Nat) (hls : s.length ≤ maxLen) (L : List VPh) (hLk : ∀ k, k < L.length → OkPh (L.getD k zPh)) (bl cL : Nat) (hlL : L.length ≤ maxLen) (lo hi : Int) (hc0 : codeF s L lo hi lo ≠ 0) : Ret Try.prog 71 [.slice As s.length cs, .slice (some ⟨bl, 0, none⟩) L.length cL, .int .i64 lo, .int .i64 hi] (fun w => Rd w As (s.flatMap (eI .u8)) ∧ Rd w (some ⟨bl, 0, none⟩) (L.flatMap encPh)) (fun x : Nat => .tuple #[.pointer (some ⟨x, 0, none⟩), .int .i64 (codeF s L lo hi lo)]) (fun x => []) (fun x => True) := by
  refine Ret.of e_71 Try.func71 rfl Try.ntmps71 rfl rfl (fun w hpre => ?_)
  have hs := hpre.1.base
  have hLr := hpre.2.base
  have hm0 : maxLen = 9223372036854775807 := rfl
  refine Ex.regSeq (ExL.pures 2 rfl ?_)
  refine ExL.nil ?_
  refine Ex.regSeq (ExL.pures 3 rfl ?_)
  refine ExL.free (fr_build rfl rfl rfl rfl) rfl rfl rfl ?_
  refine ExL.op rfl (op_box rfl rfl rfl rfl rfl (fun b1 => ?_))
  refine ExL.pures 1 rfl ?_
  refine ExL.nil ?_
  refine Ex.regSeq (ExL.pures 1 rfl ?_)
  refine ExL.op rfl (op_ret rfl rfl rfl (c_l01Ok _ (by assumption) _ _ (by first | assumption | omega | (unfold maxLen; omega))) (Reads.get (Reads.old hs)) rfl rfl (fun x2 hx2 => ?_))
  refine ExL.pures 1 rfl ?_
  refine ExL.nil ?_
  refine Ex.seq ?_
  refine Ex.regSeq (ExL.pures 1 rfl ?_)
  refine ExL.nil ?_
  refine Ex.block ?_
  refine Ex.loopK (X := Nat) (fun k => [(11, .bool (okK s L k)), (12, .int .i64 k)]) (fun k => []) (fun k => k ≤ L.length) (fun k => L.length - k) 0 [(0, _), (1, _), (2, _), (3, _), (8, _), (9, _), (10, _)] [_] 1 [0] ⟨agB (okK_0 s L).symm, rfl, trivial⟩ ⟨rfl, rfl, rfl, rfl, rfl, rfl, rfl, trivial⟩ (rfl) rfl (Nat.zero_le _) (fun k hI => ?_)
  have hI : k ≤ L.length := hI
  refine Ex.seq ?_
  refine Ex.regSeq (ExL.pures 3 rfl ?_)
  refine ExL.lss rfl rfl rfl rfl rfl rfl (fun h3 => ?_) (fun h3 => ?_)
  · refine ExL.pures 3 rfl ?_
    refine ExL.nil ?_
    refine Ex.cond rfl (fun hb4 => ?_) (fun hb4 => ?_)
    · rw [hb4]
      refine Ex.skip ?_
      refine Ex.seq ?_
      refine Ex.block ?_
      have hv6 := okK_v (s := s) (L := L) (k := k) (by assumption)
      refine Ex.region (ExL.pures 3 rfl ?_)
      refine ExL.free (fr_indexAddrP (Reads.old hLr) encPh_len rfl rfl rfl rfl rfl rfl (by omega)) rfl rfl rfl ?_
      refine ExL.op rfl (op_ret rfl rfl rfl (c_l05Ok s (by first | assumption | simp_all) _ _ (L.getD k zPh) (hLk _ (by omega)) _ _) (fun w hw => ⟨Reads.get (Reads.old hs) w hw, Reads.get (Reads.elemP (Reads.old hLr) encPh_len zPh (by omega)) w hw⟩) rfl rfl (fun x5 hx5 => ?_))
      refine ExL.pures 1 rfl ?_
      refine ExL.nil ?_
      refine Ex.region (ExL.pures 1 rfl ?_)
      refine ExL.free (by first | exact fr_add64 rfl rfl rfl (by omega) | exact fr_add rfl rfl rfl) rfl rfl rfl ?_
      refine ExL.pures 1 rfl ?_
      refine ExL.nil ?_
      refine Hand.mk (k + 1) 1 [0] ⟨agB (okK_s (by assumption)).symm, rfl, trivial⟩ ⟨rfl, rfl, rfl, rfl, rfl, rfl, rfl, trivial⟩ (rfl) rfl (by omega) (by omega)
    · rw [hb4]
      refine Ex.exit ?_
      refine Ex.seq ?_
      refine Ex.regSeq (ExL.pures 2 rfl ?_)
      refine ExL.nil ?_
      refine Ex.cond_t rfl ?_
      refine Ex.regSeq (ExL.pures 3 rfl ?_)
      refine ExL.nil ?_
      refine Ex.ret ?_
      refine RetQ.mk b1 rfl (.tmp rfl (.tmp rfl .nil)) (t2 rfl (vI (by first | (rw [cf_1 (okK_no (k := k) (by omega) (by assumption))]; first | done | rfl) | (rw [bad_3 (by assumption) (by assumption) (by omega)]; first | done | rfl) | (rw [bad_4 (k := q.K.length) hv hnb (by omega) (by omega) (by omega)]; first | done | rfl)))) [] (rfl) rfl (trivial)
  · refine ExL.pures 3 rfl ?_
    refine ExL.nil ?_
    refine Ex.cond_f rfl ?_
    refine Ex.exit ?_
    refine Ex.seq ?_
    refine Ex.regSeq (ExL.pures 2 rfl ?_)
    refine ExL.nil ?_
    refine Ex.cond rfl (fun hb6 => ?_) (fun hb6 => ?_)
    · replace hb6 := nb_t hb6
      refine Ex.regSeq (ExL.pures 3 rfl ?_)
      refine ExL.nil ?_
      refine Ex.ret ?_
      refine RetQ.mk b1 rfl (.tmp rfl (.tmp rfl .nil)) (t2 rfl (vI (by first | (rw [cf_1 (okK_no (k := k) (by omega) (by assumption))]; first | done | rfl) | (rw [bad_3 (by assumption) (by assumption) (by omega)]; first | done | rfl) | (rw [bad_4 (k := q.K.length) hv hnb (by omega) (by omega) (by omega)]; first | done | rfl)))) [] (rfl) rfl (trivial)
    · replace hb6 := nb_f hb6
      refine Ex.skip ?_
      refine Ex.seq ?_
      obtain ⟨hv, hnb⟩ := okK_end (s := s) (L := L) (k := k) (by omega) (by assumption)
      have hS := stk hv
      have hLp := okLp hLk hv hnb
      refine Ex.regSeq (ExL.pures 2 rfl ?_)
      refine ExL.op rfl (op_ret rfl rfl rfl (c_l00In _ _ _) (fun _ _ => trivial) rfl rfl (fun x7 hx7 => ?_))
      refine ExL.pures 2 rfl ?_
      refine ExL.bool (d := 42) rfl (fun hb8 => ?_) (fun hb8 => ?_)
      · replace hb8 := nd_t hb8
        refine ExL.pures 10 rfl ?_
        refine ExL.nil ?_
        refine Ex.cond_t rfl ?_
        refine Ex.regSeq (ExL.pures 3 rfl ?_)
        refine ExL.nil ?_
        refine Ex.ret ?_
        refine RetQ.mk b1 rfl (.tmp rfl (.tmp rfl .nil)) (t2 rfl (vI (by first | (rw [cf_1 (okK_no (k := k) (by omega) (by assumption))]; first | done | rfl) | (rw [bad_3 (by assumption) (by assumption) (by omega)]; first | done | rfl) | (rw [bad_4 (k := q.K.length) hv hnb (by omega) (by omega) (by omega)]; first | done | rfl)))) [] (rfl) rfl (trivial)
      · replace hb8 := nd_f hb8
        refine ExL.pures 1 rfl ?_
        refine ExL.op rfl (op_ret rfl rfl rfl (c_l00In _ _ _) (fun _ _ => trivial) rfl rfl (fun x9 hx9 => ?_))
        refine ExL.pures 3 rfl ?_
        refine ExL.bool (d := 47) rfl (fun hb10 => ?_) (fun hb10 => ?_)
        · replace hb10 := nd_t hb10
          refine ExL.pures 5 rfl ?_
          refine ExL.nil ?_
          refine Ex.cond_t rfl ?_
          refine Ex.regSeq (ExL.pures 3 rfl ?_)
          refine ExL.nil ?_
          refine Ex.ret ?_
          refine RetQ.mk b1 rfl (.tmp rfl (.tmp rfl .nil)) (t2 rfl (vI (by first | (rw [cf_1 (okK_no (k := k) (by omega) (by assumption))]; first | done | rfl) | (rw [bad_3 (by assumption) (by assumption) (by omega)]; first | done | rfl) | (rw [bad_4 (k := q.K.length) hv hnb (by omega) (by omega) (by omega)]; first | done | rfl)))) [] (rfl) rfl (trivial)
        · replace hb10 := nd_f hb10
          refine ExL.pures 2 rfl ?_
          refine ExL.op rfl (op_ret rfl rfl rfl (c_l00In _ _ _) (fun _ _ => trivial) rfl rfl (fun x11 hx11 => ?_))
          refine ExL.pures 2 rfl ?_
          refine ExL.nil ?_
          refine Ex.cond rfl (fun hb12 => ?_) (fun hb12 => ?_)
          · replace hb12 := nd_t hb12
            refine Ex.regSeq (ExL.pures 3 rfl ?_)
            refine ExL.nil ?_
            refine Ex.ret ?_
            refine RetQ.mk b1 rfl (.tmp rfl (.tmp rfl .nil)) (t2 rfl (vI (by first | (rw [cf_1 (okK_no (k := k) (by omega) (by assumption))]; first | done | rfl) | (rw [bad_3 (by assumption) (by assumption) (by omega)]; first | done | rfl) | (rw [bad_4 (k := q.K.length) hv hnb (by omega) (by omega) (by omega)]; first | done | rfl)))) [] (rfl) rfl (trivial)
          · replace hb12 := nd_f hb12
            refine Ex.skip ?_
            refine Ex.seq ?_
            refine Ex.nilRow 39 1 ?_
            refine Ex.pile0 ?_
            refine Ex.regSeq (ExL.pures 1 rfl ?_)
            refine ExL.nil ?_
            refine Ex.block ?_
            refine Ex.loopK (X := FSt) (fun q => [(13, .int .i64 q.K.length)]) (fun q => [.blk b1 [.slice As s.length cs, .slice q.A q.K.length q.c, .int .i64 lo, .int .i64 hi] 98, .row (.slice q.A q.K.length q.c) 39 1 q.K.length (q.K.flatMap encX), .pile (q.K.map (rwX (eI .i64) 2 1))]) (fun q => q.K.length ≤ L.length ∧ q.K.map (·.xs) = (filmL s L).take q.K.length ∧ ∀ i, i < q.K.length → decide (400 < choV (L.getD i zPh).l s.length) = false) (fun q => L.length - q.K.length) ⟨none, 0, []⟩ [(0, _), (1, _), (10, _)] [] 3 [2, 1, 0] ⟨rfl, trivial⟩ ⟨rfl, rfl, rfl, trivial⟩ (rfl) rfl ⟨Nat.zero_le _, rfl, fun i hi => by simp at hi⟩ (fun q hI => ?_)
            have hI : q.K.length ≤ L.length ∧ q.K.map (·.xs) = (filmL s L).take q.K.length ∧ ∀ i, i < q.K.length → decide (400 < choV (L.getD i zPh).l s.length) = false := hI
            obtain ⟨hK, hKm, hall⟩ := hI
            refine Ex.seq ?_
            refine Ex.regSeq (ExL.pures 3 rfl ?_)
            refine ExL.lss rfl rfl rfl rfl rfl rfl (fun h13 => ?_) (fun h13 => ?_)
            · refine ExL.nil ?_
              refine Ex.cond_t rfl ?_
              refine Ex.skip ?_
              refine Ex.seq ?_
              refine Ex.block ?_
              refine Ex.seq ?_
              refine Ex.regSeq (ExL.pures 2 rfl ?_)
              refine ExL.free (fr_indexAddrP (Reads.old hLr) encPh_len rfl rfl rfl rfl rfl rfl (by omega)) rfl rfl rfl ?_
              refine ExL.pures 2 rfl ?_
              refine ExL.op rfl (op_ret rfl rfl rfl (c_l05Choices s (by first | assumption | exact stk (by assumption)) (L.getD q.K.length zPh) (hLp _ (by omega)) (hLk _ (by omega)) _ _ s.length (by omega)) (Reads.get (Reads.elemP (Reads.old hLr) encPh_len zPh (by omega))) rfl rfl (fun x14 hx14 => ?_))
              refine ExL.gtr rfl rfl rfl rfl rfl rfl (fun h15 => ?_) (fun h15 => ?_)
              · refine ExL.nil ?_
                refine Ex.cond_t rfl ?_
                refine Ex.regSeq (ExL.pures 3 rfl ?_)
                refine ExL.nil ?_
                refine Ex.ret ?_
                refine RetQ.mk b1 rfl (.tmp rfl (.tmp rfl .nil)) (t2 rfl (vI (by first | (rw [cf_1 (okK_no (k := k) (by omega) (by assumption))]; first | done | rfl) | (rw [bad_3 (by assumption) (by assumption) (by omega)]; first | done | rfl) | (rw [bad_4 (k := q.K.length) hv hnb (by omega) (by omega) (by omega)]; first | done | rfl)))) [] (rfl) rfl (trivial)
              · refine ExL.nil ?_
                refine Ex.cond_f rfl ?_
                refine Ex.skip ?_
                refine Ex.drawI [2] rfl rfl ?_
                refine ExD.take (i := 0) rfl (by kernel_rfl) (pureVal_ok rfl) ((List.Sublist.cons _ (List.Sublist.cons _ (List.Sublist.refl _)))) rfl rfl rfl ?_
                refine ExD.take (i := 1) rfl (by kernel_rfl) (pureVal_ok rfl) ((List.Sublist.cons _ (List.Sublist.cons _ (List.Sublist.refl _)))) rfl rfl rfl ?_
                refine ExD.take (i := 2) rfl (by kernel_rfl) (pureVal_ok rfl) ((List.Sublist.cons _ (List.Sublist.cons _ (List.Sublist.refl _)))) rfl rfl rfl ?_
                refine ExD.take (i := 3) rfl (by kernel_rfl) (pureVal_ok rfl) ((List.Sublist.cons _ (List.Sublist.cons _ (List.Sublist.refl _)))) rfl rfl rfl ?_
                refine ExD.take (i := 5) rfl (by kernel_rfl) (pureVal_ok rfl) ((List.Sublist.cons _ (List.Sublist.cons _ (List.Sublist.refl _)))) rfl rfl rfl ?_
                refine ExD.take (i := 6) rfl (by kernel_rfl) (pureVal_ok rfl) ((List.Sublist.cons _ (List.Sublist.cons _ (List.Sublist.refl _)))) rfl rfl rfl ?_
                refine ExD.take (i := 7) rfl (by kernel_rfl) (pureVal_ok rfl) ((List.Sublist.cons _ (List.Sublist.cons _ (List.Sublist.refl _)))) rfl rfl rfl ?_
                refine ExD.take (i := 8) rfl (by kernel_rfl) (fr_indexAddrP (Reads.old hLr) encPh_len rfl rfl rfl rfl rfl rfl (by omega)) ((List.Sublist.cons _ (List.Sublist.cons _ (List.Sublist.refl _)))) rfl rfl rfl ?_
                refine ExD.fork (i := 4) (j := 9) rfl rfl (by kernel_rfl) rfl rfl (Op1.of_free (fr_load rfl rfl rfl rfl (CellO.blk (i := 0) rfl rfl)) rfl rfl ⟨(List.Sublist.cons _ (List.Sublist.cons _ (List.Sublist.refl _))), ?_⟩) (op_ret rfl rfl rfl (c_l05Values s (by first | assumption | simp_all) _ _ (L.getD q.K.length zPh) (hLk _ (by omega)) _ _ (hLp _ (by omega))) (fun w hw => ⟨Reads.get (Reads.old hs) w hw, Reads.get (Reads.elemP (Reads.old hLr) encPh_len zPh (by omega)) w hw⟩) rfl rfl (fun x16 hx16 => ⟨(List.Sublist.cons _ (List.Sublist.cons _ (List.Sublist.cons _ (List.Sublist.refl _)))), ?_⟩))
                · refine ExD.op (i := 9) rfl (by kernel_rfl) rfl (op_ret rfl rfl rfl (c_l05Values s (by first | assumption | simp_all) _ _ (L.getD q.K.length zPh) (hLk _ (by omega)) _ _ (hLp _ (by omega))) (fun w hw => ⟨Reads.get (Reads.old hs) w hw, Reads.get (Reads.elemP (Reads.old hLr) encPh_len zPh (by omega)) w hw⟩) rfl rfl (fun x17 hx17 => ⟨(List.Sublist.cons _ (List.Sublist.cons _ (List.Sublist.cons _ (List.Sublist.refl _)))), ?_⟩))
                  refine ExD.op (i := 10) rfl (by kernel_rfl) rfl (op_buildSlice (sz := 1) rfl rfl rfl rfl rfl rfl rfl rfl (by decide) rfl rfl rfl (fun r18 => ⟨(List.Sublist.cons _ (List.Sublist.cons _ (List.Sublist.cons _ (List.Sublist.cons _ (List.Sublist.refl _))))), ?_⟩))
                  refine ExD.op (i := 11) rfl (by kernel_rfl) rfl (op_append (sz := 1) (bytes := 24) (i := 3) rfl rfl rfl rfl (Reads.row (i := 0) rfl) rfl (fun e => nomatch e) rfl rfl rfl rfl (by constructor <;> first | omega | (unfold maxLen; omega)) rfl rfl (fun A19 cA19 => ⟨(List.Sublist.cons _ (List.Sublist.cons _ (List.Sublist.cons _ (List.Sublist.cons _ (List.Sublist.refl _))))), ?_⟩))
                  refine ExD.take (i := 12) rfl (by kernel_rfl) (pureVal_ok rfl) ((List.Sublist.cons _ (List.Sublist.cons _ (List.Sublist.cons _ (List.Sublist.cons _ (List.Sublist.refl _)))))) rfl rfl rfl ?_
                  refine ExD.take (i := 13) rfl (by kernel_rfl) (pureVal_ok rfl) ((List.Sublist.cons _ (List.Sublist.cons _ (List.Sublist.cons _ (List.Sublist.cons _ (List.Sublist.refl _)))))) rfl rfl rfl ?_
                  refine ExD.op (i := 14) rfl (by kernel_rfl) rfl (op_storeC (i := 2) rfl rfl rfl rfl rfl rfl rfl rfl rfl rfl ⟨(List.Sublist.cons _ (List.Sublist.cons _ (List.Sublist.cons _ (List.Sublist.cons _ (List.Sublist.refl _))))), ?_⟩)
                  refine ExD.done (by kernel_rfl) ?_
                  refine Ex.conv (layEnd (perm_lt (i := 1) (j := 4) rfl rfl rfl)) ?_
                  refine Ex.region (ExL.pures 1 rfl ?_)
                  refine ExL.free (by first | exact fr_add64 rfl rfl rfl (by omega) | exact fr_add rfl rfl rfl) rfl rfl rfl ?_
                  refine ExL.pures 1 rfl ?_
                  refine ExL.nil ?_
                  have hKn : (q.K ++ [(⟨x17.1, x17.2, valsP s (L.getD q.K.length zPh)⟩ : VX Int)]).length = q.K.length + 1 := by simp
                  refine Hand.mk (⟨A19, cA19, q.K ++ [(⟨x17.1, x17.2, valsP s (L.getD q.K.length zPh)⟩ : VX Int)]⟩) 4 [2, 3, 0] ⟨agI (by first | rfl | (simp; done) | (dsimp only; rw [hKn]; rfl)), trivial⟩ ⟨rfl, rfl, rfl, trivial⟩ (by first | rfl | (simp only [List.map_append, List.flatMap_append, hKn]; rfl)) rfl (⟨by dsimp only; omega, kx_step hKm (by omega) rfl, by dsimp only; rw [hKn]; exact all_snoc hall (by first | exact decide_eq_false (by omega) | (simp; omega))⟩) (by dsimp only; omega)
                · refine ExD.fork (i := 4) (j := 10) rfl rfl (by kernel_rfl) rfl rfl (Op1.of_free (fr_load rfl rfl rfl rfl (CellO.blk (i := 1) rfl rfl)) rfl rfl ⟨(List.Sublist.cons _ (List.Sublist.cons _ (List.Sublist.cons _ (List.Sublist.refl _)))), ?_⟩) (op_buildSlice (sz := 1) rfl rfl rfl rfl rfl rfl rfl rfl (by decide) rfl rfl rfl (fun r21 => ⟨(List.Sublist.cons _ (List.Sublist.cons _ (List.Sublist.cons _ (List.Sublist.cons _ (List.Sublist.refl _))))), ?_⟩))
                  · refine ExD.op (i := 10) rfl (by kernel_rfl) rfl (op_buildSlice (sz := 1) rfl rfl rfl rfl rfl rfl rfl rfl (by decide) rfl rfl rfl (fun r22 => ⟨(List.Sublist.cons _ (List.Sublist.cons _ (List.Sublist.cons _ (List.Sublist.cons _ (List.Sublist.refl _))))), ?_⟩))
                    refine ExD.op (i := 11) rfl (by kernel_rfl) rfl (op_append (sz := 1) (bytes := 24) (i := 3) rfl rfl rfl rfl (Reads.row (i := 0) rfl) rfl (fun e => nomatch e) rfl rfl rfl rfl (by constructor <;> first | omega | (unfold maxLen; omega)) rfl rfl (fun A23 cA23 => ⟨(List.Sublist.cons _ (List.Sublist.cons _ (List.Sublist.cons _ (List.Sublist.cons _ (List.Sublist.refl _))))), ?_⟩))
                    refine ExD.take (i := 12) rfl (by kernel_rfl) (pureVal_ok rfl) ((List.Sublist.cons _ (List.Sublist.cons _ (List.Sublist.cons _ (List.Sublist.cons _ (List.Sublist.refl _)))))) rfl rfl rfl ?_
                    refine ExD.take (i := 13) rfl (by kernel_rfl) (pureVal_ok rfl) ((List.Sublist.cons _ (List.Sublist.cons _ (List.Sublist.cons _ (List.Sublist.cons _ (List.Sublist.refl _)))))) rfl rfl rfl ?_
                    refine ExD.op (i := 14) rfl (by kernel_rfl) rfl (op_storeC (i := 2) rfl rfl rfl rfl rfl rfl rfl rfl rfl rfl ⟨(List.Sublist.cons _ (List.Sublist.cons _ (List.Sublist.cons _ (List.Sublist.cons _ (List.Sublist.refl _))))), ?_⟩)
                    refine ExD.done (by kernel_rfl) ?_
                    refine Ex.conv (layEnd (perm_lt (i := 1) (j := 4) rfl rfl rfl)) ?_
                    refine Ex.region (ExL.pures 1 rfl ?_)
                    refine ExL.free (by first | exact fr_add64 rfl rfl rfl (by omega) | exact fr_add rfl rfl rfl) rfl rfl rfl ?_
                    refine ExL.pures 1 rfl ?_
                    refine ExL.nil ?_
                    have hKn : (q.K ++ [(⟨x16.1, x16.2, valsP s (L.getD q.K.length zPh)⟩ : VX Int)]).length = q.K.length + 1 := by simp
                    refine Hand.mk (⟨A23, cA23, q.K ++ [(⟨x16.1, x16.2, valsP s (L.getD q.K.length zPh)⟩ : VX Int)]⟩) 4 [2, 3, 0] ⟨agI (by first | rfl | (simp; done) | (dsimp only; rw [hKn]; rfl)), trivial⟩ ⟨rfl, rfl, rfl, trivial⟩ (by first | rfl | (simp only [List.map_append, List.flatMap_append, hKn]; rfl)) rfl (⟨by dsimp only; omega, kx_step hKm (by omega) rfl, by dsimp only; rw [hKn]; exact all_snoc hall (by first | exact decide_eq_false (by omega) | (simp; omega))⟩) (by dsimp only; omega)
                  · refine ExD.op (i := 4) rfl (by kernel_rfl) rfl (Op1.of_free (fr_load rfl rfl rfl rfl (CellO.blk (i := 2) rfl rfl)) rfl rfl ⟨(List.Sublist.cons _ (List.Sublist.cons _ (List.Sublist.cons _ (List.Sublist.cons _ (List.Sublist.refl _))))), ?_⟩)
                    refine ExD.op (i := 11) rfl (by kernel_rfl) rfl (op_append (sz := 1) (bytes := 24) (i := 3) rfl rfl rfl rfl (Reads.row (i := 0) rfl) rfl (fun e => nomatch e) rfl rfl rfl rfl (by constructor <;> first | omega | (unfold maxLen; omega)) rfl rfl (fun A25 cA25 => ⟨(List.Sublist.cons _ (List.Sublist.cons _ (List.Sublist.cons _ (List.Sublist.cons _ (List.Sublist.refl _))))), ?_⟩))
                    refine ExD.take (i := 12) rfl (by kernel_rfl) (pureVal_ok rfl) ((List.Sublist.cons _ (List.Sublist.cons _ (List.Sublist.cons _ (List.Sublist.cons _ (List.Sublist.refl _)))))) rfl rfl rfl ?_
                    refine ExD.take (i := 13) rfl (by kernel_rfl) (pureVal_ok rfl) ((List.Sublist.cons _ (List.Sublist.cons _ (List.Sublist.cons _ (List.Sublist.cons _ (List.Sublist.refl _)))))) rfl rfl rfl ?_
                    refine ExD.op (i := 14) rfl (by kernel_rfl) rfl (op_storeC (i := 2) rfl rfl rfl rfl rfl rfl rfl rfl rfl rfl ⟨(List.Sublist.cons _ (List.Sublist.cons _ (List.Sublist.cons _ (List.Sublist.cons _ (List.Sublist.refl _))))), ?_⟩)
                    refine ExD.done (by kernel_rfl) ?_
                    refine Ex.conv (layEnd (perm_lt (i := 1) (j := 4) rfl rfl rfl)) ?_
                    refine Ex.region (ExL.pures 1 rfl ?_)
                    refine ExL.free (by first | exact fr_add64 rfl rfl rfl (by omega) | exact fr_add rfl rfl rfl) rfl rfl rfl ?_
                    refine ExL.pures 1 rfl ?_
                    refine ExL.nil ?_
                    have hKn : (q.K ++ [(⟨x16.1, x16.2, valsP s (L.getD q.K.length zPh)⟩ : VX Int)]).length = q.K.length + 1 := by simp
                    refine Hand.mk (⟨A25, cA25, q.K ++ [(⟨x16.1, x16.2, valsP s (L.getD q.K.length zPh)⟩ : VX Int)]⟩) 4 [2, 3, 0] ⟨agI (by first | rfl | (simp; done) | (dsimp only; rw [hKn]; rfl)), trivial⟩ ⟨rfl, rfl, rfl, trivial⟩ (by first | rfl | (simp only [List.map_append, List.flatMap_append, hKn]; rfl)) rfl (⟨by dsimp only; omega, kx_step hKm (by omega) rfl, by dsimp only; rw [hKn]; exact all_snoc hall (by first | exact decide_eq_false (by omega) | (simp; omega))⟩) (by dsimp only; omega)
            · refine ExL.nil ?_
              refine Ex.cond_f rfl ?_
              refine Ex.exit ?_
              have hKn : q.K.length = L.length := by omega
              have hKe := kx_fin hKm hKn
              exfalso; exact hc0 (cf_all hv hnb (by omega) (k := q.K.length) (by omega) hall)
end Go.Proofs.Ytplljnddhkleaaa
