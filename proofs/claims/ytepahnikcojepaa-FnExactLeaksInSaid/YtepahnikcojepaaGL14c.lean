/- What these functions of the program hand back, each proved by walking its operations. -/
import Derived.Test.YtepahnikcojepaaProg
import Derived.Test.YtepahnikcojepaaFw
import Derived.Test.YtepahnikcojepaaGH1
import Derived.Test.YtepahnikcojepaaGZI
set_option linter.unusedVariables false
set_option linter.unusedSimpArgs false
set_option maxRecDepth 4000
namespace Go.Proofs.Ytepahnikcojepaa
open Go Go.Sx Go.RowKit Go.W Go.Proofs
attribute [local irreducible] Ex ExL ExD Op1 Free RetQ MutQ Reads CellO SegO LoadsAs
theorem e_5 : Enters Try.prog 5 := Enters.of Try.func5 rfl
theorem w_FnExactLeaksIn (s : List VP) (As : Option Addr) (cs : Nat) (hls : s.length ≤ maxLen) (L : List VS) (AL : Option Addr) (cL : Nat) (hlL : L.length ≤ maxLen) (hnL : ∀ k, k < L.length → (L.getD k zS).xs.length ≤ maxLen) (wn : Int) : Ret Try.prog 5 [.slice As s.length cs, .slice AL L.length cL, .int .i64 wn] (fun w => Rd w As (s.flatMap encP) ∧ Rd w AL (L.flatMap encS) ∧ ∀ k, k < L.length → Rd w (L.getD k zS).A ((L.getD k zS).xs.flatMap encP)) (fun x : Unit => .bool true) (fun x => []) (fun x => True) := by
  refine Ret.of e_5 Try.func5 rfl Try.ntmps5 rfl rfl (fun w hpre => ?_)
  have hs := hpre.1.base
  have hL := hpre.2.1.base
  have hLr := fun k hk => (hpre.2.2 k hk).base
  have hlk : (leakV s (xsL L) wn).1.length ≤ 400 := leak_len s L wn
  have ht0 := totI_0 L L.length
  have hm0 : maxLen = 9223372036854775807 := rfl
  refine Ex.regSeq (ExL.pures 1 rfl ?_)
  refine ExL.nil ?_
  refine Ex.regSeq (ExL.pures 1 rfl ?_)
  refine ExL.nil ?_
  refine Ex.regSeq (ExL.pures 2 rfl ?_)
  refine ExL.op rfl (op_ret rfl rfl rfl (c_szTotalS _ _ _ (by omega) _ (by omega)) (fun _ _ => trivial) rfl rfl (fun x1 hx1 => ?_))
  refine ExL.pures 1 rfl ?_
  refine ExL.nil ?_
  refine Ex.seq ?_
  refine Ex.regSeq (ExL.pures 1 rfl ?_)
  refine ExL.lss rfl rfl rfl rfl rfl rfl (fun h2 => ?_) (fun h2 => ?_)
  · refine ExL.nil ?_
    refine Ex.cond_t rfl ?_
    refine Ex.regSeq (ExL.pures 1 rfl ?_)
    refine ExL.nil ?_
    refine Ex.ret ?_
    refine RetQ.mk () rfl (.tmp rfl .nil) (tB (by first | rfl | (exfalso; omega) | (exfalso; simp_all [sameV_refl, sameTs_refl, sameAs_refl, sameNs_refl, sameT_refl, samePs_refl]))) [] (rfl) rfl (trivial)
  · refine ExL.nil ?_
    refine Ex.cond_f rfl ?_
    refine Ex.skip ?_
    refine Ex.regSeq (ExL.pures 2 rfl ?_)
    refine ExL.op rfl (op_ret rfl rfl rfl (c_szTotalSS L _ _ (by omega) (by assumption) _ (by omega)) (fun w hw => ⟨Reads.get (Reads.old hL) w hw, fun k hk => Reads.get (Reads.old (hLr k hk)) w hw⟩) rfl rfl (fun x3 hx3 => ?_))
    refine ExL.pures 1 rfl ?_
    refine ExL.nil ?_
    refine Ex.seq ?_
    refine Ex.regSeq (ExL.pures 1 rfl ?_)
    refine ExL.lss rfl rfl rfl rfl rfl rfl (fun h4 => ?_) (fun h4 => ?_)
    · refine ExL.nil ?_
      refine Ex.cond_t rfl ?_
      refine Ex.regSeq (ExL.pures 1 rfl ?_)
      refine ExL.nil ?_
      refine Ex.ret ?_
      refine RetQ.mk () rfl (.tmp rfl .nil) (tB (by first | rfl | (exfalso; omega) | (exfalso; simp_all [sameV_refl, sameTs_refl, sameAs_refl, sameNs_refl, sameT_refl, samePs_refl]))) [] (rfl) rfl (trivial)
    · refine ExL.nil ?_
      refine Ex.cond_f rfl ?_
      refine Ex.skip ?_
      refine Ex.regSeq (ExL.pures 1 rfl ?_)
      refine ExL.op rfl (op_ret rfl rfl rfl (c_toTotalS s _ _ (by omega)) (Reads.get (Reads.old hs)) rfl rfl (fun x5 hx5 => ?_))
      refine ExL.pures 1 rfl ?_
      refine ExL.op rfl (op_ret rfl rfl rfl (c_toTotalSS L _ _ (by omega) (fun k hk => by have := totI_each L (i := k) (k := L.length) hk; omega)) (fun w hw => ⟨Reads.get (Reads.old hL) w hw, fun k hk => Reads.get (Reads.old (hLr k hk)) w hw⟩) rfl rfl (fun x6 hx6 => ?_))
      have hmlx6 := map_len hx6
      have hmtx6 : totI x6.2 x6.2.length = totI L L.length := by rw [map_len hx6]; exact totI_congr hx6 _
      refine ExL.pures 1 rfl ?_
      refine ExL.op rfl (op_ret rfl rfl rfl (c_sLeaksIn s _ _ (by omega) x6.2 _ _ (by omega) (by first | assumption | exact (fun e => nomatch e)) (fun k hk => by rw [map_getD hx6 k]; have := totI_each L (i := k) (k := L.length) (by omega); omega) (xsL L) hx6 _) (fun w hw => ⟨Reads.get (Reads.row (i := 2) rfl) w hw, Reads.get (Reads.row (i := 0) rfl) w hw, fun k hk => Reads.get (readsP (i := 1) rfl hk) w hw⟩) rfl rfl (fun x7 hx7 => ?_))
      refine ExL.pures 5 rfl ?_
      refine ExL.nil ?_
      refine Ex.regSeq (ExL.pures 1 rfl ?_)
      refine ExL.op rfl (op_ret rfl rfl rfl (c_toTotalS s _ _ (by omega)) (Reads.get (Reads.old hs)) rfl rfl (fun x8 hx8 => ?_))
      refine ExL.pures 1 rfl ?_
      refine ExL.nil ?_
      refine Ex.regSeq (ExL.pures 1 rfl ?_)
      refine ExL.op rfl (op_ret rfl rfl rfl (c_toTotalSS L _ _ (by omega) (fun k hk => by have := totI_each L (i := k) (k := L.length) hk; omega)) (fun w hw => ⟨Reads.get (Reads.old hL) w hw, fun k hk => Reads.get (Reads.old (hLr k hk)) w hw⟩) rfl rfl (fun x9 hx9 => ?_))
      have hmlx9 := map_len hx9
      have hmtx9 : totI x9.2 x9.2.length = totI L L.length := by rw [map_len hx9]; exact totI_congr hx9 _
      refine ExL.pures 1 rfl ?_
      refine ExL.nil ?_
      refine Ex.regSeq (ExL.pures 3 rfl ?_)
      refine ExL.op rfl (op_ret rfl rfl rfl (c_iLeaksIn s _ _ (by omega) x9.2 _ _ (by omega) (by first | assumption | exact (fun e => nomatch e)) (fun k hk => by rw [map_getD hx9 k]; have := totI_each L (i := k) (k := L.length) (by omega); omega) (xsL L) hx9 _) (fun w hw => ⟨Reads.get (Reads.row (i := 2) rfl) w hw, Reads.get (Reads.row (i := 0) rfl) w hw, fun k hk => Reads.get (readsP (i := 1) rfl hk) w hw⟩) rfl rfl (fun x10 hx10 => ?_))
      refine ExL.pures 5 rfl ?_
      refine ExL.nil ?_
      refine Ex.seq ?_
      refine Ex.regSeq (ExL.pures 2 rfl ?_)
      refine ExL.op rfl (op_ret rfl rfl rfl (c_eqInt64S ((leakV s (xsL L) wn).1) (x10.1) (x10.2) (by omega) ((leakV s (xsL L) wn).1) (x7.1) (x7.2) (by omega)) (fun w hw => ⟨Reads.get (Reads.row (i := 0) rfl) w hw, Reads.get (Reads.row (i := 4) rfl) w hw⟩) rfl rfl (fun x11 hx11 => ?_))
      refine ExL.pures 2 rfl ?_
      refine ExL.bool (d := 53) rfl (fun hb12 => ?_) (fun hb12 => ?_)
      · replace hb12 := nd_t hb12
        refine ExL.pures 4 rfl ?_
        refine ExL.nil ?_
        refine Ex.cond_t rfl ?_
        refine Ex.regSeq (ExL.pures 1 rfl ?_)
        refine ExL.nil ?_
        refine Ex.ret ?_
        refine RetQ.mk () rfl (.tmp rfl .nil) (tB (by first | rfl | (exfalso; omega) | (exfalso; simp_all [sameV_refl, sameTs_refl, sameAs_refl, sameNs_refl, sameT_refl, samePs_refl]))) [] (rfl) rfl (trivial)
      · replace hb12 := nd_f hb12
        refine ExL.pures 2 rfl ?_
        refine ExL.neq rfl rfl rfl rfl rfl rfl (fun h13 => ?_) (fun h13 => ?_)
        · refine ExL.pures 1 rfl ?_
          refine ExL.nil ?_
          refine Ex.cond_t rfl ?_
          refine Ex.regSeq (ExL.pures 1 rfl ?_)
          refine ExL.nil ?_
          refine Ex.ret ?_
          refine RetQ.mk () rfl (.tmp rfl .nil) (tB (by first | rfl | (exfalso; omega) | (exfalso; simp_all [sameV_refl, sameTs_refl, sameAs_refl, sameNs_refl, sameT_refl, samePs_refl]))) [] (rfl) rfl (trivial)
        · refine ExL.pures 1 rfl ?_
          refine ExL.nil ?_
          refine Ex.cond_f rfl ?_
          refine Ex.skip ?_
          refine Ex.seq ?_
          refine Ex.regSeq (ExL.pures 2 rfl ?_)
          refine ExL.op rfl (op_ret rfl rfl rfl (c_toTotalS s _ _ (by omega)) (Reads.get (Reads.old hs)) rfl rfl (fun x14 hx14 => ?_))
          refine ExL.op rfl (op_ret rfl rfl rfl (c_eqTotalS s _ _ (by omega) s _ _ (by omega)) (fun w hw => ⟨Reads.get (Reads.row (i := 4) rfl) w hw, Reads.get (Reads.row (i := 0) rfl) w hw⟩) rfl rfl (fun x15 hx15 => ?_))
          refine ExL.pures 1 rfl ?_
          refine ExL.nil ?_
          refine Ex.cond rfl (fun hb16 => ?_) (fun hb16 => ?_)
          · replace hb16 := nb_t hb16
            refine Ex.regSeq (ExL.pures 1 rfl ?_)
            refine ExL.nil ?_
            refine Ex.ret ?_
            refine RetQ.mk () rfl (.tmp rfl .nil) (tB (by first | rfl | (exfalso; omega) | (exfalso; simp_all [sameV_refl, sameTs_refl, sameAs_refl, sameNs_refl, sameT_refl, samePs_refl]))) [] (rfl) rfl (trivial)
          · replace hb16 := nb_f hb16
            refine Ex.skip ?_
            refine Ex.seq ?_
            refine Ex.regSeq (ExL.pures 2 rfl ?_)
            refine ExL.op rfl (op_ret rfl rfl rfl (c_toTotalSS L _ _ (by omega) (fun k hk => by have := totI_each L (i := k) (k := L.length) hk; omega)) (fun w hw => ⟨Reads.get (Reads.old hL) w hw, fun k hk => Reads.get (Reads.old (hLr k hk)) w hw⟩) rfl rfl (fun x17 hx17 => ?_))
            have hmlx17 := map_len hx17
            have hmtx17 : totI x17.2 x17.2.length = totI L L.length := by rw [map_len hx17]; exact totI_congr hx17 _
            refine ExL.op rfl (op_ret rfl rfl rfl (c_eqTotalSS x9.2 _ _ (by omega) (fun k hk => by rw [map_getD hx9 k]; have := totI_each L (i := k) (k := L.length) (by omega); omega) x17.2 _ _ (by omega) (fun k hk => by rw [map_getD hx17 k]; have := totI_each L (i := k) (k := L.length) (by omega); omega) (by first | rw [hx9, hx17] | (simp_all; done))) (fun w hw => ⟨Reads.get (Reads.row (i := 4) rfl) w hw, fun k hk => Reads.get (readsP (i := 5) rfl hk) w hw, Reads.get (Reads.row (i := 0) rfl) w hw, fun k hk => Reads.get (readsP (i := 1) rfl hk) w hw⟩) rfl rfl (fun x18 hx18 => ?_))
            refine ExL.pures 1 rfl ?_
            refine ExL.nil ?_
            refine Ex.cond_f rfl ?_
            refine Ex.skip ?_
            refine Ex.regSeq (ExL.pures 1 rfl ?_)
            refine ExL.nil ?_
            refine Ex.regSeq (ExL.pures 2 rfl ?_)
            refine ExL.op rfl (op_mut rfl rfl rfl (c_markTotalS s _ _ _ (by omega) 1 (by omega)) (perm_at (i := 6) rfl) (trivial) rfl rfl (fun x19 hx19 => ?_))
            refine ExL.pures 1 rfl ?_
            refine ExL.nil ?_
            refine Ex.regSeq (ExL.pures 2 rfl ?_)
            refine ExL.op rfl (op_mut rfl rfl rfl (c_markTotalSS x9.2 _ (by omega) _ (by omega)) (perm_lt (i := 5) (j := 6) rfl rfl rfl) (trivial) rfl rfl (fun x20 hx20 => ?_))
            refine ExL.pures 1 rfl ?_
            refine ExL.nil ?_
            refine Ex.seq ?_
            refine Ex.regSeq (ExL.pures 1 rfl ?_)
            refine ExL.lss rfl rfl rfl rfl rfl rfl (fun h21 => ?_) (fun h21 => ?_)
            · refine ExL.pures 11 rfl ?_
              refine ExL.nil ?_
              refine Ex.cond_t rfl ?_
              refine Ex.regSeq (ExL.pures 1 rfl ?_)
              refine ExL.nil ?_
              refine Ex.ret ?_
              refine RetQ.mk () rfl (.tmp rfl .nil) (tB (by first | rfl | (exfalso; omega) | (exfalso; simp_all [sameV_refl, sameTs_refl, sameAs_refl, sameNs_refl, sameT_refl, samePs_refl]))) [] (rfl) rfl (trivial)
            · refine ExL.pures 3 rfl ?_
              refine ExL.op rfl (op_ret rfl rfl rfl (c_eqInt64S ((leakV s (xsL L) wn).1) (x10.1) (x10.2) (by omega) ((leakV s (xsL L) wn).1) (x7.1) (x7.2) (by omega)) (fun w hw => ⟨Reads.get (Reads.row (i := 6) rfl) w hw, Reads.get (Reads.row (i := 7) rfl) w hw⟩) rfl rfl (fun x22 hx22 => ?_))
              refine ExL.pures 3 rfl ?_
              refine ExL.bool (d := 82) rfl (fun hb23 => ?_) (fun hb23 => ?_)
              · replace hb23 := nd_t hb23
                refine ExL.pures 4 rfl ?_
                refine ExL.nil ?_
                refine Ex.cond_t rfl ?_
                refine Ex.regSeq (ExL.pures 1 rfl ?_)
                refine ExL.nil ?_
                refine Ex.ret ?_
                refine RetQ.mk () rfl (.tmp rfl .nil) (tB (by first | rfl | (exfalso; omega) | (exfalso; simp_all [sameV_refl, sameTs_refl, sameAs_refl, sameNs_refl, sameT_refl, samePs_refl]))) [] (rfl) rfl (trivial)
              · replace hb23 := nd_f hb23
                refine ExL.pures 2 rfl ?_
                refine ExL.neq rfl rfl rfl rfl rfl rfl (fun h24 => ?_) (fun h24 => ?_)
                · refine ExL.pures 1 rfl ?_
                  refine ExL.nil ?_
                  refine Ex.cond_t rfl ?_
                  refine Ex.regSeq (ExL.pures 1 rfl ?_)
                  refine ExL.nil ?_
                  refine Ex.ret ?_
                  refine RetQ.mk () rfl (.tmp rfl .nil) (tB (by first | rfl | (exfalso; omega) | (exfalso; simp_all [sameV_refl, sameTs_refl, sameAs_refl, sameNs_refl, sameT_refl, samePs_refl]))) [] (rfl) rfl (trivial)
                · refine ExL.pures 1 rfl ?_
                  refine ExL.nil ?_
                  refine Ex.cond_f rfl ?_
                  refine Ex.skip ?_
                  refine Ex.regSeq (ExL.pures 1 rfl ?_)
                  refine ExL.nil ?_
                  refine Ex.regSeq (ExL.pures 2 rfl ?_)
                  refine ExL.op rfl (op_mut rfl rfl rfl (c_markInt64S ((leakV s (xsL L) wn).1) _ _ _ (by omega) 1 (by omega)) (perm_at (i := 6) rfl) (trivial) rfl rfl (fun x25 hx25 => ?_))
                  refine ExL.pures 1 rfl ?_
                  refine ExL.nil ?_
                  refine Ex.regSeq (ExL.pures 1 rfl ?_)
                  refine ExL.nil ?_
                  refine Ex.regSeq (ExL.pures 2 rfl ?_)
                  refine ExL.op rfl (op_ret rfl rfl rfl (c_heldInt64S _ _ _ (by omega) 1 (by omega)) (Reads.get (Reads.row (i := 0) rfl)) rfl rfl (fun x26 hx26 => ?_))
                  refine ExL.pures 1 rfl ?_
                  refine ExL.nil ?_
                  refine Ex.seq ?_
                  refine Ex.regSeq (ExL.pures 1 rfl ?_)
                  refine ExL.lss rfl rfl rfl rfl rfl rfl (fun h27 => ?_) (fun h27 => ?_)
                  · refine ExL.nil ?_
                    refine Ex.cond_t rfl ?_
                    refine Ex.regSeq (ExL.pures 1 rfl ?_)
                    refine ExL.nil ?_
                    refine Ex.ret ?_
                    refine RetQ.mk () rfl (.tmp rfl .nil) (tB (by first | rfl | (exfalso; omega) | (exfalso; simp_all [sameV_refl, sameTs_refl, sameAs_refl, sameNs_refl, sameT_refl, samePs_refl]))) [] (rfl) rfl (trivial)
                  · refine ExL.nil ?_
                    refine Ex.cond_f rfl ?_
                    refine Ex.skip ?_
                    refine Ex.seq ?_
                    refine Ex.regSeq (ExL.pures 2 rfl ?_)
                    refine ExL.neq rfl rfl rfl rfl rfl rfl (fun h28 => ?_) (fun h28 => ?_)
                    · refine ExL.nil ?_
                      refine Ex.cond_t rfl ?_
                      refine Ex.regSeq (ExL.pures 1 rfl ?_)
                      refine ExL.nil ?_
                      refine Ex.ret ?_
                      refine RetQ.mk () rfl (.tmp rfl .nil) (tB (by first | rfl | (exfalso; omega) | (exfalso; simp_all [sameV_refl, sameTs_refl, sameAs_refl, sameNs_refl, sameT_refl, samePs_refl]))) [] (rfl) rfl (trivial)
                    · refine ExL.nil ?_
                      refine Ex.cond_f rfl ?_
                      refine Ex.skip ?_
                      refine Ex.regSeq (ExL.pures 1 rfl ?_)
                      refine ExL.op rfl (op_ret rfl rfl rfl (c_toTotalS s _ _ (by omega)) (Reads.get (Reads.old hs)) rfl rfl (fun x29 hx29 => ?_))
                      refine ExL.pures 1 rfl ?_
                      refine ExL.op rfl (op_ret rfl rfl rfl (c_toTotalSS L _ _ (by omega) (fun k hk => by have := totI_each L (i := k) (k := L.length) hk; omega)) (fun w hw => ⟨Reads.get (Reads.old hL) w hw, fun k hk => Reads.get (Reads.old (hLr k hk)) w hw⟩) rfl rfl (fun x30 hx30 => ?_))
                      have hmlx30 := map_len hx30
                      have hmtx30 : totI x30.2 x30.2.length = totI L L.length := by rw [map_len hx30]; exact totI_congr hx30 _
                      refine ExL.pures 1 rfl ?_
                      refine ExL.op rfl (op_ret rfl rfl rfl (c_iLeaksIn s _ _ (by omega) x30.2 _ _ (by omega) (by first | assumption | exact (fun e => nomatch e)) (fun k hk => by rw [map_getD hx30 k]; have := totI_each L (i := k) (k := L.length) (by omega); omega) (xsL L) hx30 _) (fun w hw => ⟨Reads.get (Reads.row (i := 2) rfl) w hw, Reads.get (Reads.row (i := 0) rfl) w hw, fun k hk => Reads.get (readsP (i := 1) rfl hk) w hw⟩) rfl rfl (fun x31 hx31 => ?_))
                      refine ExL.pures 5 rfl ?_
                      refine ExL.nil ?_
                      refine Ex.seq ?_
                      refine Ex.regSeq (ExL.pures 2 rfl ?_)
                      refine ExL.op rfl (op_ret rfl rfl rfl (c_eqInt64S ((leakV s (xsL L) wn).1) (x31.1) (x31.2) (by omega) ((leakV s (xsL L) wn).1) (x7.1) (x7.2) (by omega)) (fun w hw => ⟨Reads.get (Reads.row (i := 0) rfl) w hw, Reads.get (Reads.row (i := 11) rfl) w hw⟩) rfl rfl (fun x32 hx32 => ?_))
                      refine ExL.pures 2 rfl ?_
                      refine ExL.bool (d := 111) rfl (fun hb33 => ?_) (fun hb33 => ?_)
                      · replace hb33 := nd_t hb33
                        refine ExL.pures 4 rfl ?_
                        refine ExL.nil ?_
                        refine Ex.cond_t rfl ?_
                        refine Ex.regSeq (ExL.pures 1 rfl ?_)
                        refine ExL.nil ?_
                        refine Ex.ret ?_
                        refine RetQ.mk () rfl (.tmp rfl .nil) (tB (by first | rfl | (exfalso; omega) | (exfalso; simp_all [sameV_refl, sameTs_refl, sameAs_refl, sameNs_refl, sameT_refl, samePs_refl]))) [] (rfl) rfl (trivial)
                      · replace hb33 := nd_f hb33
                        refine ExL.pures 2 rfl ?_
                        refine ExL.neq rfl rfl rfl rfl rfl rfl (fun h34 => ?_) (fun h34 => ?_)
                        · refine ExL.pures 1 rfl ?_
                          refine ExL.nil ?_
                          refine Ex.cond_t rfl ?_
                          refine Ex.regSeq (ExL.pures 1 rfl ?_)
                          refine ExL.nil ?_
                          refine Ex.ret ?_
                          refine RetQ.mk () rfl (.tmp rfl .nil) (tB (by first | rfl | (exfalso; omega) | (exfalso; simp_all [sameV_refl, sameTs_refl, sameAs_refl, sameNs_refl, sameT_refl, samePs_refl]))) [] (rfl) rfl (trivial)
                        · refine ExL.pures 1 rfl ?_
                          refine ExL.nil ?_
                          refine Ex.cond_f rfl ?_
                          refine Ex.skip ?_
                          refine Ex.regSeq (ExL.pures 1 rfl ?_)
                          refine ExL.nil ?_
                          refine Ex.regSeq (ExL.pures 2 rfl ?_)
                          refine ExL.op rfl (op_ret rfl rfl rfl (c_heldInt64S _ _ _ (by omega) 1 (by omega)) (Reads.get (Reads.row (i := 4) rfl)) rfl rfl (fun x35 hx35 => ?_))
                          refine ExL.pures 1 rfl ?_
                          refine ExL.nil ?_
                          refine Ex.seq ?_
                          refine Ex.regSeq (ExL.pures 1 rfl ?_)
                          refine ExL.lss rfl rfl rfl rfl rfl rfl (fun h36 => ?_) (fun h36 => ?_)
                          · refine ExL.nil ?_
                            refine Ex.cond_t rfl ?_
                            refine Ex.regSeq (ExL.pures 1 rfl ?_)
                            refine ExL.nil ?_
                            refine Ex.ret ?_
                            refine RetQ.mk () rfl (.tmp rfl .nil) (tB (by first | rfl | (exfalso; omega) | (exfalso; simp_all [sameV_refl, sameTs_refl, sameAs_refl, sameNs_refl, sameT_refl, samePs_refl]))) [] (rfl) rfl (trivial)
                          · refine ExL.nil ?_
                            refine Ex.cond_f rfl ?_
                            refine Ex.skip ?_
                            refine Ex.seq ?_
                            refine Ex.regSeq (ExL.pures 2 rfl ?_)
                            refine ExL.neq rfl rfl rfl rfl rfl rfl (fun h37 => ?_) (fun h37 => ?_)
                            · refine ExL.nil ?_
                              refine Ex.cond_t rfl ?_
                              refine Ex.regSeq (ExL.pures 1 rfl ?_)
                              refine ExL.nil ?_
                              refine Ex.ret ?_
                              refine RetQ.mk () rfl (.tmp rfl .nil) (tB (by first | rfl | (exfalso; omega) | (exfalso; simp_all [sameV_refl, sameTs_refl, sameAs_refl, sameNs_refl, sameT_refl, samePs_refl]))) [] (rfl) rfl (trivial)
                            · refine ExL.nil ?_
                              refine Ex.cond_f rfl ?_
                              refine Ex.skip ?_
                              refine Ex.regSeq (ExL.pures 1 rfl ?_)
                              refine ExL.nil ?_
                              refine Ex.ret ?_
                              refine RetQ.mk () rfl (.tmp rfl .nil) (tB (by first | rfl | (exfalso; omega) | (exfalso; simp_all [sameV_refl, sameTs_refl, sameAs_refl, sameNs_refl, sameT_refl, samePs_refl]))) [] (rfl) rfl (trivial)
end Go.Proofs.Ytepahnikcojepaa
