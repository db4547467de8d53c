/- What these functions of the program hand back, each proved by walking its operations. -/
import Derived.Test.YtepahnikcojepaaProg
import Derived.Test.YtepahnikcojepaaFw
import Derived.Test.YtepahnikcojepaaGH
set_option linter.unusedVariables false
set_option linter.unusedSimpArgs false
set_option maxRecDepth 4000
namespace Go.Proofs.Ytepahnikcojepaa
open Go Go.Sx Go.RowKit Go.W Go.Proofs
attribute [local irreducible] Ex ExL ExD Op1 Free RetQ MutQ Reads CellO SegO LoadsAs
theorem e_83 : Enters Try.prog 83 := Enters.of Try.func83 rfl
theorem c_more (l : List VP) (hT : Tot l) (Al : Option Addr) (cl : Nat) (hll : l.length ≤ maxLen) (day : Int) (hc : Covers l day) (hc2 : Covers l (day + 1)) : Ret Try.prog 83 [.slice Al l.length cl, .int .i64 day] (fun w => Rd w Al (l.flatMap encP)) (fun x : Unit => .int .i64 (moreV l day)) (fun x => []) (fun x => True) := by
  refine Ret.of e_83 Try.func83 rfl Try.ntmps83 rfl rfl (fun w hpre => ?_)
  have hl := hpre.base
  have hx1 := ow_bd hT day
  have hx2 := ow_bd hT (day + 1)
  rw [ow_c hc] at hx1
  rw [ow_c hc2] at hx2
  have hda := hc.2.1
  have hdb := hc.2.2
  have hd1 := hT.day 0 hc.1
  have hd2 := hT.day (l.length - 1) (by have := hc.1; omega)
  have hm0 : maxLen = 9223372036854775807 := rfl
  refine Ex.regSeq (ExL.pures 1 rfl ?_)
  refine ExL.nil ?_
  refine Ex.regSeq (ExL.pures 2 rfl ?_)
  refine ExL.free (by first | exact fr_add64 rfl rfl rfl (by omega) | exact fr_add rfl rfl rfl) rfl rfl rfl ?_
  refine ExL.op rfl (op_ret rfl rfl rfl (c_countOn l (by assumption) _ _ (by omega) _ (by assumption)) (Reads.get (Reads.old hl)) rfl rfl (fun x1 hx1 => ?_))
  refine ExL.pures 2 rfl ?_
  refine ExL.op rfl (op_ret rfl rfl rfl (c_countOn l (by assumption) _ _ (by omega) _ (by assumption)) (Reads.get (Reads.old hl)) rfl rfl (fun x2 hx2 => ?_))
  refine ExL.free (by first | exact fr_sub64 rfl rfl rfl (by omega) | exact fr_sub rfl rfl rfl) rfl rfl rfl ?_
  refine ExL.pures 1 rfl ?_
  refine ExL.nil ?_
  refine Ex.ret ?_
  refine RetQ.mk () rfl (.tmp rfl .nil) (tI (by unfold moreV; rw [ow_c hc, ow_c hc2])) [] (rfl) rfl (trivial)
theorem e_28 : Enters Try.prog 28 := Enters.of Try.func28 rfl
theorem c_sLeaksIn (s : List VP) (As : Option Addr) (cs : Nat) (hls : s.length ≤ maxLen) (L : List VS) (AL : Option Addr) (cL : Nat) (hlL : L.length ≤ 1048576) (hAL : AL = none → L.length = 0 ∧ cL = 0) (hnL : ∀ k, k < L.length → (L.getD k zS).xs.length ≤ maxLen) (Ls : List (List VP)) (hLs : L.map (·.xs) = Ls) (wn : Int) : Ret Try.prog 28 [.slice As s.length cs, .slice AL L.length cL, .int .i64 wn] (fun w => Rd w As (s.flatMap encP) ∧ Rd w AL (L.flatMap encS) ∧ ∀ k, k < L.length → Rd w (L.getD k zS).A ((L.getD k zS).xs.flatMap encP)) (fun x : Option Addr × Nat => .tuple #[.slice x.1 (leakV s Ls wn).1.length x.2, .int .i64 (leakV s Ls wn).2]) (fun x => [.row (.slice x.1 (leakV s Ls wn).1.length x.2) 2 1 (leakV s Ls wn).1.length ((leakV s Ls wn).1.flatMap (eI .i64))]) (fun x => True) := by
  refine Ret.of e_28 Try.func28 rfl Try.ntmps28 rfl rfl (fun w hpre => ?_)
  have hs := hpre.1.base
  have hL := hpre.2.1.base
  have hLr := fun k hk => (hpre.2.2 k hk).base
  subst hLs
  have hm0 : maxLen = 9223372036854775807 := rfl
  refine Ex.regSeq (ExL.pures 2 rfl ?_)
  refine ExL.nil ?_
  refine Ex.regSeq (ExL.pures 1 rfl ?_)
  refine ExL.op rfl (op_ret rfl rfl rfl (c_l06Totals s _ _ (by omega)) (Reads.get (Reads.old hs)) rfl rfl (fun x1 hx1 => ?_))
  refine ExL.pures 1 rfl ?_
  refine ExL.nil ?_
  refine Ex.seq ?_
  refine Ex.regSeq (ExL.pures 1 rfl ?_)
  refine ExL.nil ?_
  refine Ex.block ?_
  refine Ex.loopK (X := Nat) (fun k => [(8, .bool (vB s L k)), (9, .int .i64 k)]) (fun k => []) (fun k => k ≤ L.length ∧ ∀ i, i < k → vB s L i = true) (fun k => L.length - k) 0 [(0, _), (1, _), (2, _), (6, _), (7, _)] [] 0 [] ⟨rfl, rfl, trivial⟩ ⟨rfl, rfl, rfl, rfl, rfl, trivial⟩ (rfl) rfl ⟨Nat.zero_le _, fun i hi => by omega⟩ (fun k hI => ?_)
  have hI : k ≤ L.length ∧ ∀ i, i < k → vB s L i = true := hI
  obtain ⟨hk, hall⟩ := hI
  refine Ex.seq ?_
  refine Ex.regSeq (ExL.pures 3 rfl ?_)
  refine ExL.lss rfl rfl rfl rfl rfl rfl (fun h2 => ?_) (fun h2 => ?_)
  · refine ExL.pures 3 rfl ?_
    refine ExL.nil ?_
    refine Ex.cond rfl (fun hb3 => ?_) (fun hb3 => ?_)
    · refine Ex.skip ?_
      refine Ex.seq ?_
      refine Ex.block ?_
      have hnk := hnL k (by omega)
      refine Ex.region (ExL.pures 2 rfl ?_)
      refine ExL.free (fr_indexAddrF (Reads.old hL) encS_len rfl rfl rfl rfl rfl rfl (by omega)) rfl rfl rfl ?_
      refine ExL.free (fr_load rfl rfl rfl rfl (by first | exact cellN (Reads.old hL) encS_len zS 0 rfl (by omega) rfl | exact cellF (Reads.old hL) encS_len zS 0 rfl (by omega) rfl)) rfl rfl rfl ?_
      refine ExL.op rfl (op_ret rfl rfl rfl (c_l06Totals (L.getD k zS).xs _ _ (by omega)) (Reads.get (Reads.old (hLr k (by omega)))) rfl rfl (fun x4 hx4 => ?_))
      refine ExL.pures 1 rfl ?_
      refine ExL.nil ?_
      refine Ex.region (ExL.pures 1 rfl ?_)
      refine ExL.free (by first | exact fr_add64 rfl rfl rfl (by omega) | exact fr_add rfl rfl rfl) rfl rfl rfl ?_
      refine ExL.pures 1 rfl ?_
      refine ExL.nil ?_
      refine Hand.mk (k + 1) 0 [] ⟨rfl, rfl, trivial⟩ ⟨rfl, rfl, rfl, rfl, rfl, trivial⟩ (rfl) rfl (⟨by omega, all_snoc hall (by assumption)⟩) (by omega)
    · refine Ex.exit ?_
      refine Ex.seq ?_
      refine Ex.regSeq (ExL.pures 2 rfl ?_)
      refine ExL.nil ?_
      refine Ex.cond rfl (fun hb5 => ?_) (fun hb5 => ?_)
      · replace hb5 := nb_t hb5
        refine Ex.regSeq (ExL.pures 0 rfl ?_)
        refine ExL.op rfl (op_buildSlice (sz := 1) rfl rfl rfl rfl rfl rfl rfl rfl (by decide) rfl rfl rfl (fun r6 => ?_))
        refine ExL.pures 2 rfl ?_
        refine ExL.nil ?_
        refine Ex.ret ?_
        refine RetQ.mk ((some ⟨r6, 0, none⟩), 0) rfl (.tmp rfl (.tmp rfl .nil)) (t2 (by first | (rw [lk_1 (av_no (k := k) (by omega) (by assumption))]; first | done | rfl) | (rw [lk_2 hav (by omega)]; first | done | rfl) | (rw [lk_6 (A := As) (c := cs) hav h16 (by omega)]; first | done | rfl) | (rw [lk_c (A := As) (c := cs) hav h16 (by omega) (by omega)]; first | done | rfl) | (rw [lk_0 hav h16 hc0 hkn]; first | done | rfl)) (by first | (rw [lk_1 (av_no (k := k) (by omega) (by assumption))]; first | done | rfl) | (rw [lk_2 hav (by omega)]; first | done | rfl) | (rw [lk_6 (A := As) (c := cs) hav h16 (by omega)]; first | done | rfl) | (rw [lk_c (A := As) (c := cs) hav h16 (by omega) (by omega)]; first | done | rfl) | (rw [lk_0 hav h16 hc0 hkn]; first | done | rfl))) [0] (by first | (rw [lk_1 (av_no (k := k) (by omega) (by assumption))]; first | done | rfl) | (rw [lk_2 hav (by omega)]; first | done | rfl) | (rw [lk_6 (A := As) (c := cs) hav h16 (by omega)]; first | done | rfl) | (rw [lk_c (A := As) (c := cs) hav h16 (by omega) (by omega)]; first | done | rfl) | (rw [lk_0 hav h16 hc0 hkn]; first | done | rfl)) rfl (trivial)
      · replace hb5 := nb_f hb5
        refine Ex.skip ?_
        refine Ex.seq ?_
        have hav : allV s L = true := by first | exact av_yes (k := k) (by omega) hall (by assumption) | (exfalso; simp_all; done)
        obtain ⟨hTs, hLt⟩ := av_tot hav
        refine Ex.regSeq (ExL.pures 2 rfl ?_)
        refine ExL.op rfl (op_ret rfl rfl rfl (c_l00In _ _ _) (fun _ _ => trivial) rfl rfl (fun x7 hx7 => ?_))
        refine ExL.pures 2 rfl ?_
        refine ExL.bool (d := 48) rfl (fun hb8 => ?_) (fun hb8 => ?_)
        · replace hb8 := nd_t hb8
          refine ExL.pures 4 rfl ?_
          refine ExL.nil ?_
          refine Ex.cond_t rfl ?_
          refine Ex.regSeq (ExL.pures 0 rfl ?_)
          refine ExL.op rfl (op_buildSlice (sz := 1) rfl rfl rfl rfl rfl rfl rfl rfl (by decide) rfl rfl rfl (fun r9 => ?_))
          refine ExL.pures 2 rfl ?_
          refine ExL.nil ?_
          refine Ex.ret ?_
          refine RetQ.mk ((some ⟨r9, 0, none⟩), 0) rfl (.tmp rfl (.tmp rfl .nil)) (t2 (by first | (rw [lk_1 (av_no (k := k) (by omega) (by assumption))]; first | done | rfl) | (rw [lk_2 hav (by omega)]; first | done | rfl) | (rw [lk_6 (A := As) (c := cs) hav h16 (by omega)]; first | done | rfl) | (rw [lk_c (A := As) (c := cs) hav h16 (by omega) (by omega)]; first | done | rfl) | (rw [lk_0 hav h16 hc0 hkn]; first | done | rfl)) (by first | (rw [lk_1 (av_no (k := k) (by omega) (by assumption))]; first | done | rfl) | (rw [lk_2 hav (by omega)]; first | done | rfl) | (rw [lk_6 (A := As) (c := cs) hav h16 (by omega)]; first | done | rfl) | (rw [lk_c (A := As) (c := cs) hav h16 (by omega) (by omega)]; first | done | rfl) | (rw [lk_0 hav h16 hc0 hkn]; first | done | rfl))) [0] (by first | (rw [lk_1 (av_no (k := k) (by omega) (by assumption))]; first | done | rfl) | (rw [lk_2 hav (by omega)]; first | done | rfl) | (rw [lk_6 (A := As) (c := cs) hav h16 (by omega)]; first | done | rfl) | (rw [lk_c (A := As) (c := cs) hav h16 (by omega) (by omega)]; first | done | rfl) | (rw [lk_0 hav h16 hc0 hkn]; first | done | rfl)) rfl (trivial)
        · replace hb8 := nd_f hb8
          refine ExL.pures 1 rfl ?_
          refine ExL.op rfl (op_ret rfl rfl rfl (c_l06Positive _) (fun _ _ => trivial) rfl rfl (fun x10 hx10 => ?_))
          refine ExL.pures 2 rfl ?_
          refine ExL.nil ?_
          refine Ex.cond rfl (fun hb11 => ?_) (fun hb11 => ?_)
          · replace hb11 := nd_t hb11
            refine Ex.regSeq (ExL.pures 0 rfl ?_)
            refine ExL.op rfl (op_buildSlice (sz := 1) rfl rfl rfl rfl rfl rfl rfl rfl (by decide) rfl rfl rfl (fun r12 => ?_))
            refine ExL.pures 2 rfl ?_
            refine ExL.nil ?_
            refine Ex.ret ?_
            refine RetQ.mk ((some ⟨r12, 0, none⟩), 0) rfl (.tmp rfl (.tmp rfl .nil)) (t2 (by first | (rw [lk_1 (av_no (k := k) (by omega) (by assumption))]; first | done | rfl) | (rw [lk_2 hav (by omega)]; first | done | rfl) | (rw [lk_6 (A := As) (c := cs) hav h16 (by omega)]; first | done | rfl) | (rw [lk_c (A := As) (c := cs) hav h16 (by omega) (by omega)]; first | done | rfl) | (rw [lk_0 hav h16 hc0 hkn]; first | done | rfl)) (by first | (rw [lk_1 (av_no (k := k) (by omega) (by assumption))]; first | done | rfl) | (rw [lk_2 hav (by omega)]; first | done | rfl) | (rw [lk_6 (A := As) (c := cs) hav h16 (by omega)]; first | done | rfl) | (rw [lk_c (A := As) (c := cs) hav h16 (by omega) (by omega)]; first | done | rfl) | (rw [lk_0 hav h16 hc0 hkn]; first | done | rfl))) [0] (by first | (rw [lk_1 (av_no (k := k) (by omega) (by assumption))]; first | done | rfl) | (rw [lk_2 hav (by omega)]; first | done | rfl) | (rw [lk_6 (A := As) (c := cs) hav h16 (by omega)]; first | done | rfl) | (rw [lk_c (A := As) (c := cs) hav h16 (by omega) (by omega)]; first | done | rfl) | (rw [lk_0 hav h16 hc0 hkn]; first | done | rfl)) rfl (trivial)
          · replace hb11 := nd_f hb11
            refine Ex.skip ?_
            have h16 : (1 ≤ L.length ∧ L.length ≤ 6) ∧ 0 ≤ wn ∧ wn ≤ 1000000000000 := by omega
            refine Ex.regSeq (ExL.pures 1 rfl ?_)
            refine ExL.op rfl (op_buildSlice (sz := 1) rfl rfl rfl rfl rfl rfl rfl rfl (by decide) rfl rfl rfl (fun r13 => ?_))
            refine ExL.pures 1 rfl ?_
            refine ExL.op rfl (op_append (sz := 1) (bytes := 24) (i := 0) rfl rfl rfl rfl (Reads.old hL) (flat_len encS_len _) hAL (all_flat (fun _ => rfl) _) rfl rfl rfl (by constructor <;> first | omega | (unfold maxLen; omega)) rfl rfl (fun A14 cA14 => ?_))
            rw [Nat.add_comm 1 L.length]
            refine ExL.op rfl (op_ret rfl rfl rfl (c_l06Common (⟨As, cs, s⟩ :: L) (totC hTs hLt) _ _ (by first | omega | (simp; unfold maxLen; omega))) (fun w hw => ⟨Reads.get (Reads.row (i := 0) rfl) w hw, rdC (Reads.get (Reads.old hs) w hw) (fun k hk => Reads.get (Reads.old (hLr k hk)) w hw)⟩) rfl rfl (fun x16 hx16 => ?_))
            refine ExL.pures 7 rfl ?_
            refine ExL.nil ?_
            refine Ex.seq ?_
            refine Ex.regSeq (ExL.pures 1 rfl ?_)
            refine ExL.eql rfl rfl rfl rfl rfl rfl (fun h17 => ?_) (fun h17 => ?_)
            · refine ExL.nil ?_
              refine Ex.cond_t rfl ?_
              refine Ex.regSeq (ExL.pures 0 rfl ?_)
              refine ExL.op rfl (op_buildSlice (sz := 1) rfl rfl rfl rfl rfl rfl rfl rfl (by decide) rfl rfl rfl (fun r18 => ?_))
              refine ExL.pures 2 rfl ?_
              refine ExL.nil ?_
              refine Ex.ret ?_
              refine RetQ.mk ((some ⟨r18, 0, none⟩), 0) rfl (.tmp rfl (.tmp rfl .nil)) (t2 (by first | (rw [lk_1 (av_no (k := k) (by omega) (by assumption))]; first | done | rfl) | (rw [lk_2 hav (by omega)]; first | done | rfl) | (rw [lk_6 (A := As) (c := cs) hav h16 (by omega)]; first | done | rfl) | (rw [lk_c (A := As) (c := cs) hav h16 (by omega) (by omega)]; first | done | rfl) | (rw [lk_0 hav h16 hc0 hkn]; first | done | rfl)) (by first | (rw [lk_1 (av_no (k := k) (by omega) (by assumption))]; first | done | rfl) | (rw [lk_2 hav (by omega)]; first | done | rfl) | (rw [lk_6 (A := As) (c := cs) hav h16 (by omega)]; first | done | rfl) | (rw [lk_c (A := As) (c := cs) hav h16 (by omega) (by omega)]; first | done | rfl) | (rw [lk_0 hav h16 hc0 hkn]; first | done | rfl))) [0] (by first | (rw [lk_1 (av_no (k := k) (by omega) (by assumption))]; first | done | rfl) | (rw [lk_2 hav (by omega)]; first | done | rfl) | (rw [lk_6 (A := As) (c := cs) hav h16 (by omega)]; first | done | rfl) | (rw [lk_c (A := As) (c := cs) hav h16 (by omega) (by omega)]; first | done | rfl) | (rw [lk_0 hav h16 hc0 hkn]; first | done | rfl)) rfl (trivial)
            · refine ExL.nil ?_
              refine Ex.cond_f rfl ?_
              refine Ex.skip ?_
              refine Ex.seq ?_
              refine Ex.regSeq (ExL.pures 1 rfl ?_)
              refine ExL.neq rfl rfl rfl rfl rfl rfl (fun h19 => ?_) (fun h19 => ?_)
              · refine ExL.nil ?_
                refine Ex.cond_t rfl ?_
                refine Ex.regSeq (ExL.pures 0 rfl ?_)
                refine ExL.op rfl (op_buildSlice (sz := 1) rfl rfl rfl rfl rfl rfl rfl rfl (by decide) rfl rfl rfl (fun r20 => ?_))
                refine ExL.pures 3 rfl ?_
                refine ExL.nil ?_
                refine Ex.ret ?_
                refine RetQ.mk ((some ⟨r20, 0, none⟩), 0) rfl (.tmp rfl (.tmp rfl .nil)) (t2 (by first | (rw [lk_1 (av_no (k := k) (by omega) (by assumption))]; first | done | rfl) | (rw [lk_2 hav (by omega)]; first | done | rfl) | (rw [lk_6 (A := As) (c := cs) hav h16 (by omega)]; first | done | rfl) | (rw [lk_c (A := As) (c := cs) hav h16 (by omega) (by omega)]; first | done | rfl) | (rw [lk_0 hav h16 hc0 hkn]; first | done | rfl)) (by first | (rw [lk_1 (av_no (k := k) (by omega) (by assumption))]; first | done | rfl) | (rw [lk_2 hav (by omega)]; first | done | rfl) | (rw [lk_6 (A := As) (c := cs) hav h16 (by omega)]; first | done | rfl) | (rw [lk_c (A := As) (c := cs) hav h16 (by omega) (by omega)]; first | done | rfl) | (rw [lk_0 hav h16 hc0 hkn]; first | done | rfl))) [0] (by first | (rw [lk_1 (av_no (k := k) (by omega) (by assumption))]; first | done | rfl) | (rw [lk_2 hav (by omega)]; first | done | rfl) | (rw [lk_6 (A := As) (c := cs) hav h16 (by omega)]; first | done | rfl) | (rw [lk_c (A := As) (c := cs) hav h16 (by omega) (by omega)]; first | done | rfl) | (rw [lk_0 hav h16 hc0 hkn]; first | done | rfl)) rfl (trivial)
              · refine ExL.nil ?_
                refine Ex.cond_f rfl ?_
                refine Ex.skip ?_
                have hc0 : (comV (⟨As, cs, s⟩ :: L)).2.2 = 0 := by omega
                have hCm := comV_0 hc0
                have hCl := hCm.le
                have hC0 := hCm.lo
                have hC1 := hCm.hi
                have hC2 := hCm.span
                refine Ex.regSeq (ExL.pures 0 rfl ?_)
                refine ExL.op rfl (op_buildSlice (sz := 1) rfl rfl rfl rfl rfl rfl rfl rfl (by decide) rfl rfl rfl (fun r21 => ?_))
                refine ExL.pures 1 rfl ?_
                refine ExL.nil ?_
                refine Ex.seq ?_
                refine Ex.regSeq (ExL.pures 2 rfl ?_)
                refine ExL.nil ?_
                refine Ex.block ?_
                refine Ex.loopA (fun k A c => [(13, .slice A (leakL s L wn (comV (⟨As, cs, s⟩ :: L)).1 k).length c), (14, .int .i64 ((comV (⟨As, cs, s⟩ :: L)).1 + (k : Int)))]) (fun k A c => [.row (.slice A (leakL s L wn (comV (⟨As, cs, s⟩ :: L)).1 k).length c) 2 1 (leakL s L wn (comV (⟨As, cs, s⟩ :: L)).1 k).length ((leakL s L wn (comV (⟨As, cs, s⟩ :: L)).1 k).flatMap (eI .i64))]) (fun k => (comV (⟨As, cs, s⟩ :: L)).1 + (k : Int) ≤ (comV (⟨As, cs, s⟩ :: L)).2.1) (fun k => (100001 - (comV (⟨As, cs, s⟩ :: L)).1).toNat - k) 0 ((some ⟨r21, 0, none⟩)) (0) [(0, _), (1, _), (2, _), (6, _), (7, _), (11, _)] [] 2 [0] ⟨rfl, agI (by omega), trivial⟩ ⟨rfl, rfl, rfl, rfl, rfl, rfl, trivial⟩ (rfl) rfl (by omega) (fun k A c hI => ?_)
                have hI : (comV (⟨As, cs, s⟩ :: L)).1 + (k : Int) ≤ (comV (⟨As, cs, s⟩ :: L)).2.1 := hI
                have hll2 := leakL_len s L wn (comV (⟨As, cs, s⟩ :: L)).1 k
                refine Ex.seq ?_
                refine Ex.regSeq (ExL.pures 2 rfl ?_)
                refine ExL.lss rfl rfl rfl rfl rfl rfl (fun h22 => ?_) (fun h22 => ?_)
                · refine ExL.nil ?_
                  refine Ex.cond_t rfl ?_
                  refine Ex.skip ?_
                  refine Ex.seq ?_
                  refine Ex.block ?_
                  have hx1 := ow_bd hTs ((comV (⟨As, cs, s⟩ :: L)).1 + (k : Int))
                  have hx2 := ow_bd hTs ((comV (⟨As, cs, s⟩ :: L)).1 + (k : Int) + 1)
                  refine Ex.regSeq (ExL.pures 2 rfl ?_)
                  refine ExL.op rfl (op_ret rfl rfl rfl (c_l06On s (by assumption) _ _ (by omega) _) (Reads.get (Reads.old hs)) rfl rfl (fun x23 hx23 => ?_))
                  refine ExL.pures 5 rfl ?_
                  refine ExL.nil ?_
                  refine Ex.regSeq (ExL.pures 2 rfl ?_)
                  refine ExL.free (by first | exact fr_add64 rfl rfl rfl (by omega) | exact fr_add rfl rfl rfl) rfl rfl rfl ?_
                  refine ExL.op rfl (op_ret rfl rfl rfl (c_l06On s (by assumption) _ _ (by omega) _) (Reads.get (Reads.old hs)) rfl rfl (fun x24 hx24 => ?_))
                  refine ExL.pures 5 rfl ?_
                  refine ExL.nil ?_
                  refine Ex.regSeq (ExL.pures 1 rfl ?_)
                  refine ExL.nil ?_
                  refine Ex.seq ?_
                  refine Ex.regSeq (ExL.pures 1 rfl ?_)
                  refine ExL.nil ?_
                  refine Ex.block ?_
                  refine Ex.loopK (X := Nat) (fun j => [(19, .int .i64 (sumM L ((comV (⟨As, cs, s⟩ :: L)).1 + (k : Int)) j)), (20, .int .i64 j)]) (fun j => []) (fun j => j ≤ L.length) (fun j => L.length - j) 0 [(0, _), (1, _), (2, _), (6, _), (7, _), (11, _), (13, _), (14, _), (15, _), (17, _)] [_] 1 [0] ⟨rfl, rfl, trivial⟩ ⟨rfl, rfl, rfl, rfl, rfl, rfl, rfl, rfl, rfl, rfl, trivial⟩ (rfl) rfl (Nat.zero_le _) (fun j hI => ?_)
                  have hI : j ≤ L.length := hI
                  refine Ex.seq ?_
                  refine Ex.regSeq (ExL.pures 3 rfl ?_)
                  refine ExL.lss rfl rfl rfl rfl rfl rfl (fun h25 => ?_) (fun h25 => ?_)
                  · refine ExL.nil ?_
                    refine Ex.cond_t rfl ?_
                    refine Ex.skip ?_
                    refine Ex.seq ?_
                    refine Ex.block ?_
                    have hjl : j < L.length := by omega
                    have hnj := hnL j hjl
                    have hTj := hLt j hjl
                    have hw1 := ow_bd hTj ((comV (⟨As, cs, s⟩ :: L)).1 + (k : Int))
                    have hw2 := ow_bd hTj ((comV (⟨As, cs, s⟩ :: L)).1 + (k : Int) + 1)
                    have hsb := sumM_bd hLt ((comV (⟨As, cs, s⟩ :: L)).1 + (k : Int)) j (by omega)
                    refine Ex.regSeq (ExL.pures 2 rfl ?_)
                    refine ExL.free (fr_indexAddrF (Reads.old hL) encS_len rfl rfl rfl rfl rfl rfl (by omega)) rfl rfl rfl ?_
                    refine ExL.free (fr_load rfl rfl rfl rfl (by first | exact cellN (Reads.old hL) encS_len zS 0 rfl (by omega) rfl | exact cellF (Reads.old hL) encS_len zS 0 rfl (by omega) rfl)) rfl rfl rfl ?_
                    refine ExL.pures 1 rfl ?_
                    refine ExL.op rfl (op_ret rfl rfl rfl (c_l06On (L.getD j zS).xs (by assumption) _ _ (by omega) _) (Reads.get (Reads.old (hLr j (by omega)))) rfl rfl (fun x26 hx26 => ?_))
                    refine ExL.pures 5 rfl ?_
                    refine ExL.nil ?_
                    refine Ex.regSeq (ExL.pures 2 rfl ?_)
                    refine ExL.free (fr_indexAddrF (Reads.old hL) encS_len rfl rfl rfl rfl rfl rfl (by omega)) rfl rfl rfl ?_
                    refine ExL.free (fr_load rfl rfl rfl rfl (by first | exact cellN (Reads.old hL) encS_len zS 0 rfl (by omega) rfl | exact cellF (Reads.old hL) encS_len zS 0 rfl (by omega) rfl)) rfl rfl rfl ?_
                    refine ExL.pures 1 rfl ?_
                    refine ExL.free (by first | exact fr_add64 rfl rfl rfl (by omega) | exact fr_add rfl rfl rfl) rfl rfl rfl ?_
                    refine ExL.op rfl (op_ret rfl rfl rfl (c_l06On (L.getD j zS).xs (by assumption) _ _ (by omega) _) (Reads.get (Reads.old (hLr j (by omega)))) rfl rfl (fun x27 hx27 => ?_))
                    refine ExL.pures 5 rfl ?_
                    refine ExL.nil ?_
                    refine Ex.region (ExL.pures 3 rfl ?_)
                    refine ExL.free (by first | exact fr_sub64 rfl rfl rfl (by omega) | exact fr_sub rfl rfl rfl) rfl rfl rfl ?_
                    refine ExL.free (by first | exact fr_add64 rfl rfl rfl (by omega) | exact fr_add rfl rfl rfl) rfl rfl rfl ?_
                    refine ExL.pures 1 rfl ?_
                    refine ExL.nil ?_
                    refine Ex.region (ExL.pures 1 rfl ?_)
                    refine ExL.free (by first | exact fr_add64 rfl rfl rfl (by omega) | exact fr_add rfl rfl rfl) rfl rfl rfl ?_
                    refine ExL.pures 1 rfl ?_
                    refine ExL.nil ?_
                    refine Hand.mk (j + 1) 1 [0] ⟨rfl, rfl, trivial⟩ ⟨rfl, rfl, rfl, rfl, rfl, rfl, rfl, rfl, rfl, rfl, trivial⟩ (rfl) rfl (by omega) (by omega)
                  · refine ExL.nil ?_
                    refine Ex.cond_f rfl ?_
                    refine Ex.exit ?_
                    obtain rfl : j = L.length := (by omega)
                    have hsb := sumM_bd hLt ((comV (⟨As, cs, s⟩ :: L)).1 + (k : Int)) L.length (Nat.le_refl _)
                    refine Ex.regSeq (ExL.pures 2 rfl ?_)
                    refine ExL.free (by first | exact fr_sub64 rfl rfl rfl (by omega) | exact fr_sub rfl rfl rfl) rfl rfl rfl ?_
                    refine ExL.pures 2 rfl ?_
                    refine ExL.free (by first | exact fr_add64 rfl rfl rfl (by omega) | exact fr_add rfl rfl rfl) rfl rfl rfl ?_
                    refine ExL.gtr rfl rfl rfl rfl rfl rfl (fun h28 => ?_) (fun h28 => ?_)
                    · refine ExL.nil ?_
                      refine Ex.cond_t rfl ?_
                      refine Ex.region (ExL.pures 2 rfl ?_)
                      refine ExL.op rfl (op_buildSlice (sz := 1) rfl rfl rfl rfl rfl rfl rfl rfl (by decide) rfl rfl rfl (fun r29 => ?_))
                      refine ExL.op rfl (op_append (sz := 1) (bytes := 8) (i := 1) rfl rfl rfl rfl (Reads.row (i := 0) rfl) rfl (fun e => nomatch e) rfl rfl rfl rfl (by constructor <;> first | omega | (unfold maxLen; omega)) rfl rfl (fun A30 cA30 => ?_))
                      refine ExL.pures 1 rfl ?_
                      refine ExL.nil ?_
                      refine Ex.region (ExL.pures 1 rfl ?_)
                      refine ExL.free (by first | exact fr_add64 rfl rfl rfl (by omega) | exact fr_add rfl rfl rfl) rfl rfl rfl ?_
                      refine ExL.pures 1 rfl ?_
                      refine ExL.nil ?_
                      refine HandA.of (k + 1) (A30) (cA30) 2 [1] ⟨(by first | (rw [ll_y (by first | omega | (unfold moreV; omega)), List.length_append]; rfl) | (rw [ll_n (by first | omega | (unfold moreV; omega))]; first | done | rfl)), agI (by omega), trivial⟩ ⟨rfl, rfl, rfl, rfl, rfl, rfl, trivial⟩ (by first | (rw [ll_y (by first | omega | (unfold moreV; omega)), List.length_append, List.flatMap_append]; rfl) | (rw [ll_n (by first | omega | (unfold moreV; omega))]; first | done | rfl)) rfl (by omega) (by omega)
                    · refine ExL.nil ?_
                      refine Ex.cond_f rfl ?_
                      refine Ex.skip ?_
                      refine Ex.region (ExL.pures 1 rfl ?_)
                      refine ExL.free (by first | exact fr_add64 rfl rfl rfl (by omega) | exact fr_add rfl rfl rfl) rfl rfl rfl ?_
                      refine ExL.pures 1 rfl ?_
                      refine ExL.nil ?_
                      refine HandA.of (k + 1) (A) (c) 1 [0] ⟨(by first | (rw [ll_y (by first | omega | (unfold moreV; omega)), List.length_append]; rfl) | (rw [ll_n (by first | omega | (unfold moreV; omega))]; first | done | rfl)), agI (by omega), trivial⟩ ⟨rfl, rfl, rfl, rfl, rfl, rfl, trivial⟩ (by first | (rw [ll_y (by first | omega | (unfold moreV; omega)), List.length_append, List.flatMap_append]; rfl) | (rw [ll_n (by first | omega | (unfold moreV; omega))]; first | done | rfl)) rfl (by omega) (by omega)
                · refine ExL.nil ?_
                  refine Ex.cond_f rfl ?_
                  refine Ex.exit ?_
                  have hkn : (k : Int) = (comV (⟨As, cs, s⟩ :: L)).2.1 - (comV (⟨As, cs, s⟩ :: L)).1 := by omega
                  refine Ex.regSeq (ExL.pures 3 rfl ?_)
                  refine ExL.nil ?_
                  refine Ex.ret ?_
                  refine RetQ.mk (A, c) rfl (.tmp rfl (.tmp rfl .nil)) (t2 (by first | (rw [lk_1 (av_no (k := k) (by omega) (by assumption))]; first | done | rfl) | (rw [lk_2 hav (by omega)]; first | done | rfl) | (rw [lk_6 (A := As) (c := cs) hav h16 (by omega)]; first | done | rfl) | (rw [lk_c (A := As) (c := cs) hav h16 (by omega) (by omega)]; first | done | rfl) | (rw [lk_0 hav h16 hc0 hkn]; first | done | rfl)) (by first | (rw [lk_1 (av_no (k := k) (by omega) (by assumption))]; first | done | rfl) | (rw [lk_2 hav (by omega)]; first | done | rfl) | (rw [lk_6 (A := As) (c := cs) hav h16 (by omega)]; first | done | rfl) | (rw [lk_c (A := As) (c := cs) hav h16 (by omega) (by omega)]; first | done | rfl) | (rw [lk_0 hav h16 hc0 hkn]; first | done | rfl))) [0] (by first | (rw [lk_1 (av_no (k := k) (by omega) (by assumption))]; first | done | rfl) | (rw [lk_2 hav (by omega)]; first | done | rfl) | (rw [lk_6 (A := As) (c := cs) hav h16 (by omega)]; first | done | rfl) | (rw [lk_c (A := As) (c := cs) hav h16 (by omega) (by omega)]; first | done | rfl) | (rw [lk_0 hav h16 hc0 hkn]; first | done | rfl)) rfl (trivial)
  · refine ExL.pures 3 rfl ?_
    refine ExL.nil ?_
    refine Ex.cond_f rfl ?_
    refine Ex.exit ?_
    refine Ex.seq ?_
    refine Ex.regSeq (ExL.pures 2 rfl ?_)
    refine ExL.nil ?_
    refine Ex.cond rfl (fun hb32 => ?_) (fun hb32 => ?_)
    · replace hb32 := nb_t hb32
      refine Ex.regSeq (ExL.pures 0 rfl ?_)
      refine ExL.op rfl (op_buildSlice (sz := 1) rfl rfl rfl rfl rfl rfl rfl rfl (by decide) rfl rfl rfl (fun r33 => ?_))
      refine ExL.pures 2 rfl ?_
      refine ExL.nil ?_
      refine Ex.ret ?_
      refine RetQ.mk ((some ⟨r33, 0, none⟩), 0) rfl (.tmp rfl (.tmp rfl .nil)) (t2 (by first | (rw [lk_1 (av_no (k := k) (by omega) (by assumption))]; first | done | rfl) | (rw [lk_2 hav (by omega)]; first | done | rfl) | (rw [lk_6 (A := As) (c := cs) hav h16 (by omega)]; first | done | rfl) | (rw [lk_c (A := As) (c := cs) hav h16 (by omega) (by omega)]; first | done | rfl) | (rw [lk_0 hav h16 hc0 hkn]; first | done | rfl)) (by first | (rw [lk_1 (av_no (k := k) (by omega) (by assumption))]; first | done | rfl) | (rw [lk_2 hav (by omega)]; first | done | rfl) | (rw [lk_6 (A := As) (c := cs) hav h16 (by omega)]; first | done | rfl) | (rw [lk_c (A := As) (c := cs) hav h16 (by omega) (by omega)]; first | done | rfl) | (rw [lk_0 hav h16 hc0 hkn]; first | done | rfl))) [0] (by first | (rw [lk_1 (av_no (k := k) (by omega) (by assumption))]; first | done | rfl) | (rw [lk_2 hav (by omega)]; first | done | rfl) | (rw [lk_6 (A := As) (c := cs) hav h16 (by omega)]; first | done | rfl) | (rw [lk_c (A := As) (c := cs) hav h16 (by omega) (by omega)]; first | done | rfl) | (rw [lk_0 hav h16 hc0 hkn]; first | done | rfl)) rfl (trivial)
    · replace hb32 := nb_f hb32
      refine Ex.skip ?_
      refine Ex.seq ?_
      have hav : allV s L = true := by first | exact av_yes (k := k) (by omega) hall (by assumption) | (exfalso; simp_all; done)
      obtain ⟨hTs, hLt⟩ := av_tot hav
      refine Ex.regSeq (ExL.pures 2 rfl ?_)
      refine ExL.op rfl (op_ret rfl rfl rfl (c_l00In _ _ _) (fun _ _ => trivial) rfl rfl (fun x34 hx34 => ?_))
      refine ExL.pures 2 rfl ?_
      refine ExL.bool (d := 48) rfl (fun hb35 => ?_) (fun hb35 => ?_)
      · replace hb35 := nd_t hb35
        refine ExL.pures 4 rfl ?_
        refine ExL.nil ?_
        refine Ex.cond_t rfl ?_
        refine Ex.regSeq (ExL.pures 0 rfl ?_)
        refine ExL.op rfl (op_buildSlice (sz := 1) rfl rfl rfl rfl rfl rfl rfl rfl (by decide) rfl rfl rfl (fun r36 => ?_))
        refine ExL.pures 2 rfl ?_
        refine ExL.nil ?_
        refine Ex.ret ?_
        refine RetQ.mk ((some ⟨r36, 0, none⟩), 0) rfl (.tmp rfl (.tmp rfl .nil)) (t2 (by first | (rw [lk_1 (av_no (k := k) (by omega) (by assumption))]; first | done | rfl) | (rw [lk_2 hav (by omega)]; first | done | rfl) | (rw [lk_6 (A := As) (c := cs) hav h16 (by omega)]; first | done | rfl) | (rw [lk_c (A := As) (c := cs) hav h16 (by omega) (by omega)]; first | done | rfl) | (rw [lk_0 hav h16 hc0 hkn]; first | done | rfl)) (by first | (rw [lk_1 (av_no (k := k) (by omega) (by assumption))]; first | done | rfl) | (rw [lk_2 hav (by omega)]; first | done | rfl) | (rw [lk_6 (A := As) (c := cs) hav h16 (by omega)]; first | done | rfl) | (rw [lk_c (A := As) (c := cs) hav h16 (by omega) (by omega)]; first | done | rfl) | (rw [lk_0 hav h16 hc0 hkn]; first | done | rfl))) [0] (by first | (rw [lk_1 (av_no (k := k) (by omega) (by assumption))]; first | done | rfl) | (rw [lk_2 hav (by omega)]; first | done | rfl) | (rw [lk_6 (A := As) (c := cs) hav h16 (by omega)]; first | done | rfl) | (rw [lk_c (A := As) (c := cs) hav h16 (by omega) (by omega)]; first | done | rfl) | (rw [lk_0 hav h16 hc0 hkn]; first | done | rfl)) rfl (trivial)
      · replace hb35 := nd_f hb35
        refine ExL.pures 1 rfl ?_
        refine ExL.op rfl (op_ret rfl rfl rfl (c_l06Positive _) (fun _ _ => trivial) rfl rfl (fun x37 hx37 => ?_))
        refine ExL.pures 2 rfl ?_
        refine ExL.nil ?_
        refine Ex.cond rfl (fun hb38 => ?_) (fun hb38 => ?_)
        · replace hb38 := nd_t hb38
          refine Ex.regSeq (ExL.pures 0 rfl ?_)
          refine ExL.op rfl (op_buildSlice (sz := 1) rfl rfl rfl rfl rfl rfl rfl rfl (by decide) rfl rfl rfl (fun r39 => ?_))
          refine ExL.pures 2 rfl ?_
          refine ExL.nil ?_
          refine Ex.ret ?_
          refine RetQ.mk ((some ⟨r39, 0, none⟩), 0) rfl (.tmp rfl (.tmp rfl .nil)) (t2 (by first | (rw [lk_1 (av_no (k := k) (by omega) (by assumption))]; first | done | rfl) | (rw [lk_2 hav (by omega)]; first | done | rfl) | (rw [lk_6 (A := As) (c := cs) hav h16 (by omega)]; first | done | rfl) | (rw [lk_c (A := As) (c := cs) hav h16 (by omega) (by omega)]; first | done | rfl) | (rw [lk_0 hav h16 hc0 hkn]; first | done | rfl)) (by first | (rw [lk_1 (av_no (k := k) (by omega) (by assumption))]; first | done | rfl) | (rw [lk_2 hav (by omega)]; first | done | rfl) | (rw [lk_6 (A := As) (c := cs) hav h16 (by omega)]; first | done | rfl) | (rw [lk_c (A := As) (c := cs) hav h16 (by omega) (by omega)]; first | done | rfl) | (rw [lk_0 hav h16 hc0 hkn]; first | done | rfl))) [0] (by first | (rw [lk_1 (av_no (k := k) (by omega) (by assumption))]; first | done | rfl) | (rw [lk_2 hav (by omega)]; first | done | rfl) | (rw [lk_6 (A := As) (c := cs) hav h16 (by omega)]; first | done | rfl) | (rw [lk_c (A := As) (c := cs) hav h16 (by omega) (by omega)]; first | done | rfl) | (rw [lk_0 hav h16 hc0 hkn]; first | done | rfl)) rfl (trivial)
        · replace hb38 := nd_f hb38
          refine Ex.skip ?_
          have h16 : (1 ≤ L.length ∧ L.length ≤ 6) ∧ 0 ≤ wn ∧ wn ≤ 1000000000000 := by omega
          refine Ex.regSeq (ExL.pures 1 rfl ?_)
          refine ExL.op rfl (op_buildSlice (sz := 1) rfl rfl rfl rfl rfl rfl rfl rfl (by decide) rfl rfl rfl (fun r40 => ?_))
          refine ExL.pures 1 rfl ?_
          refine ExL.op rfl (op_append (sz := 1) (bytes := 24) (i := 0) rfl rfl rfl rfl (Reads.old hL) (flat_len encS_len _) hAL (all_flat (fun _ => rfl) _) rfl rfl rfl (by constructor <;> first | omega | (unfold maxLen; omega)) rfl rfl (fun A41 cA41 => ?_))
          rw [Nat.add_comm 1 L.length]
          refine ExL.op rfl (op_ret rfl rfl rfl (c_l06Common (⟨As, cs, s⟩ :: L) (totC hTs hLt) _ _ (by first | omega | (simp; unfold maxLen; omega))) (fun w hw => ⟨Reads.get (Reads.row (i := 0) rfl) w hw, rdC (Reads.get (Reads.old hs) w hw) (fun k hk => Reads.get (Reads.old (hLr k hk)) w hw)⟩) rfl rfl (fun x43 hx43 => ?_))
          refine ExL.pures 7 rfl ?_
          refine ExL.nil ?_
          refine Ex.seq ?_
          refine Ex.regSeq (ExL.pures 1 rfl ?_)
          refine ExL.eql rfl rfl rfl rfl rfl rfl (fun h44 => ?_) (fun h44 => ?_)
          · refine ExL.nil ?_
            refine Ex.cond_t rfl ?_
            refine Ex.regSeq (ExL.pures 0 rfl ?_)
            refine ExL.op rfl (op_buildSlice (sz := 1) rfl rfl rfl rfl rfl rfl rfl rfl (by decide) rfl rfl rfl (fun r45 => ?_))
            refine ExL.pures 2 rfl ?_
            refine ExL.nil ?_
            refine Ex.ret ?_
            refine RetQ.mk ((some ⟨r45, 0, none⟩), 0) rfl (.tmp rfl (.tmp rfl .nil)) (t2 (by first | (rw [lk_1 (av_no (k := k) (by omega) (by assumption))]; first | done | rfl) | (rw [lk_2 hav (by omega)]; first | done | rfl) | (rw [lk_6 (A := As) (c := cs) hav h16 (by omega)]; first | done | rfl) | (rw [lk_c (A := As) (c := cs) hav h16 (by omega) (by omega)]; first | done | rfl) | (rw [lk_0 hav h16 hc0 hkn]; first | done | rfl)) (by first | (rw [lk_1 (av_no (k := k) (by omega) (by assumption))]; first | done | rfl) | (rw [lk_2 hav (by omega)]; first | done | rfl) | (rw [lk_6 (A := As) (c := cs) hav h16 (by omega)]; first | done | rfl) | (rw [lk_c (A := As) (c := cs) hav h16 (by omega) (by omega)]; first | done | rfl) | (rw [lk_0 hav h16 hc0 hkn]; first | done | rfl))) [0] (by first | (rw [lk_1 (av_no (k := k) (by omega) (by assumption))]; first | done | rfl) | (rw [lk_2 hav (by omega)]; first | done | rfl) | (rw [lk_6 (A := As) (c := cs) hav h16 (by omega)]; first | done | rfl) | (rw [lk_c (A := As) (c := cs) hav h16 (by omega) (by omega)]; first | done | rfl) | (rw [lk_0 hav h16 hc0 hkn]; first | done | rfl)) rfl (trivial)
          · refine ExL.nil ?_
            refine Ex.cond_f rfl ?_
            refine Ex.skip ?_
            refine Ex.seq ?_
            refine Ex.regSeq (ExL.pures 1 rfl ?_)
            refine ExL.neq rfl rfl rfl rfl rfl rfl (fun h46 => ?_) (fun h46 => ?_)
            · refine ExL.nil ?_
              refine Ex.cond_t rfl ?_
              refine Ex.regSeq (ExL.pures 0 rfl ?_)
              refine ExL.op rfl (op_buildSlice (sz := 1) rfl rfl rfl rfl rfl rfl rfl rfl (by decide) rfl rfl rfl (fun r47 => ?_))
              refine ExL.pures 3 rfl ?_
              refine ExL.nil ?_
              refine Ex.ret ?_
              refine RetQ.mk ((some ⟨r47, 0, none⟩), 0) rfl (.tmp rfl (.tmp rfl .nil)) (t2 (by first | (rw [lk_1 (av_no (k := k) (by omega) (by assumption))]; first | done | rfl) | (rw [lk_2 hav (by omega)]; first | done | rfl) | (rw [lk_6 (A := As) (c := cs) hav h16 (by omega)]; first | done | rfl) | (rw [lk_c (A := As) (c := cs) hav h16 (by omega) (by omega)]; first | done | rfl) | (rw [lk_0 hav h16 hc0 hkn]; first | done | rfl)) (by first | (rw [lk_1 (av_no (k := k) (by omega) (by assumption))]; first | done | rfl) | (rw [lk_2 hav (by omega)]; first | done | rfl) | (rw [lk_6 (A := As) (c := cs) hav h16 (by omega)]; first | done | rfl) | (rw [lk_c (A := As) (c := cs) hav h16 (by omega) (by omega)]; first | done | rfl) | (rw [lk_0 hav h16 hc0 hkn]; first | done | rfl))) [0] (by first | (rw [lk_1 (av_no (k := k) (by omega) (by assumption))]; first | done | rfl) | (rw [lk_2 hav (by omega)]; first | done | rfl) | (rw [lk_6 (A := As) (c := cs) hav h16 (by omega)]; first | done | rfl) | (rw [lk_c (A := As) (c := cs) hav h16 (by omega) (by omega)]; first | done | rfl) | (rw [lk_0 hav h16 hc0 hkn]; first | done | rfl)) rfl (trivial)
            · refine ExL.nil ?_
              refine Ex.cond_f rfl ?_
              refine Ex.skip ?_
              have hc0 : (comV (⟨As, cs, s⟩ :: L)).2.2 = 0 := by omega
              have hCm := comV_0 hc0
              have hCl := hCm.le
              have hC0 := hCm.lo
              have hC1 := hCm.hi
              have hC2 := hCm.span
              refine Ex.regSeq (ExL.pures 0 rfl ?_)
              refine ExL.op rfl (op_buildSlice (sz := 1) rfl rfl rfl rfl rfl rfl rfl rfl (by decide) rfl rfl rfl (fun r48 => ?_))
              refine ExL.pures 1 rfl ?_
              refine ExL.nil ?_
              refine Ex.seq ?_
              refine Ex.regSeq (ExL.pures 2 rfl ?_)
              refine ExL.nil ?_
              refine Ex.block ?_
              refine Ex.loopA (fun k A c => [(13, .slice A (leakL s L wn (comV (⟨As, cs, s⟩ :: L)).1 k).length c), (14, .int .i64 ((comV (⟨As, cs, s⟩ :: L)).1 + (k : Int)))]) (fun k A c => [.row (.slice A (leakL s L wn (comV (⟨As, cs, s⟩ :: L)).1 k).length c) 2 1 (leakL s L wn (comV (⟨As, cs, s⟩ :: L)).1 k).length ((leakL s L wn (comV (⟨As, cs, s⟩ :: L)).1 k).flatMap (eI .i64))]) (fun k => (comV (⟨As, cs, s⟩ :: L)).1 + (k : Int) ≤ (comV (⟨As, cs, s⟩ :: L)).2.1) (fun k => (100001 - (comV (⟨As, cs, s⟩ :: L)).1).toNat - k) 0 ((some ⟨r48, 0, none⟩)) (0) [(0, _), (1, _), (2, _), (6, _), (7, _), (11, _)] [] 2 [0] ⟨rfl, agI (by omega), trivial⟩ ⟨rfl, rfl, rfl, rfl, rfl, rfl, trivial⟩ (rfl) rfl (by omega) (fun k A c hI => ?_)
              have hI : (comV (⟨As, cs, s⟩ :: L)).1 + (k : Int) ≤ (comV (⟨As, cs, s⟩ :: L)).2.1 := hI
              have hll2 := leakL_len s L wn (comV (⟨As, cs, s⟩ :: L)).1 k
              refine Ex.seq ?_
              refine Ex.regSeq (ExL.pures 2 rfl ?_)
              refine ExL.lss rfl rfl rfl rfl rfl rfl (fun h49 => ?_) (fun h49 => ?_)
              · refine ExL.nil ?_
                refine Ex.cond_t rfl ?_
                refine Ex.skip ?_
                refine Ex.seq ?_
                refine Ex.block ?_
                have hx1 := ow_bd hTs ((comV (⟨As, cs, s⟩ :: L)).1 + (k : Int))
                have hx2 := ow_bd hTs ((comV (⟨As, cs, s⟩ :: L)).1 + (k : Int) + 1)
                refine Ex.regSeq (ExL.pures 2 rfl ?_)
                refine ExL.op rfl (op_ret rfl rfl rfl (c_l06On s (by assumption) _ _ (by omega) _) (Reads.get (Reads.old hs)) rfl rfl (fun x50 hx50 => ?_))
                refine ExL.pures 5 rfl ?_
                refine ExL.nil ?_
                refine Ex.regSeq (ExL.pures 2 rfl ?_)
                refine ExL.free (by first | exact fr_add64 rfl rfl rfl (by omega) | exact fr_add rfl rfl rfl) rfl rfl rfl ?_
                refine ExL.op rfl (op_ret rfl rfl rfl (c_l06On s (by assumption) _ _ (by omega) _) (Reads.get (Reads.old hs)) rfl rfl (fun x51 hx51 => ?_))
                refine ExL.pures 5 rfl ?_
                refine ExL.nil ?_
                refine Ex.regSeq (ExL.pures 1 rfl ?_)
                refine ExL.nil ?_
                refine Ex.seq ?_
                refine Ex.regSeq (ExL.pures 1 rfl ?_)
                refine ExL.nil ?_
                refine Ex.block ?_
                refine Ex.loopK (X := Nat) (fun j => [(19, .int .i64 (sumM L ((comV (⟨As, cs, s⟩ :: L)).1 + (k : Int)) j)), (20, .int .i64 j)]) (fun j => []) (fun j => j ≤ L.length) (fun j => L.length - j) 0 [(0, _), (1, _), (2, _), (6, _), (7, _), (11, _), (13, _), (14, _), (15, _), (17, _)] [_] 1 [0] ⟨rfl, rfl, trivial⟩ ⟨rfl, rfl, rfl, rfl, rfl, rfl, rfl, rfl, rfl, rfl, trivial⟩ (rfl) rfl (Nat.zero_le _) (fun j hI => ?_)
                have hI : j ≤ L.length := hI
                refine Ex.seq ?_
                refine Ex.regSeq (ExL.pures 3 rfl ?_)
                refine ExL.lss rfl rfl rfl rfl rfl rfl (fun h52 => ?_) (fun h52 => ?_)
                · refine ExL.nil ?_
                  refine Ex.cond_t rfl ?_
                  refine Ex.skip ?_
                  refine Ex.seq ?_
                  refine Ex.block ?_
                  have hjl : j < L.length := by omega
                  have hnj := hnL j hjl
                  have hTj := hLt j hjl
                  have hw1 := ow_bd hTj ((comV (⟨As, cs, s⟩ :: L)).1 + (k : Int))
                  have hw2 := ow_bd hTj ((comV (⟨As, cs, s⟩ :: L)).1 + (k : Int) + 1)
                  have hsb := sumM_bd hLt ((comV (⟨As, cs, s⟩ :: L)).1 + (k : Int)) j (by omega)
                  refine Ex.regSeq (ExL.pures 2 rfl ?_)
                  refine ExL.free (fr_indexAddrF (Reads.old hL) encS_len rfl rfl rfl rfl rfl rfl (by omega)) rfl rfl rfl ?_
                  refine ExL.free (fr_load rfl rfl rfl rfl (by first | exact cellN (Reads.old hL) encS_len zS 0 rfl (by omega) rfl | exact cellF (Reads.old hL) encS_len zS 0 rfl (by omega) rfl)) rfl rfl rfl ?_
                  refine ExL.pures 1 rfl ?_
                  refine ExL.op rfl (op_ret rfl rfl rfl (c_l06On (L.getD j zS).xs (by assumption) _ _ (by omega) _) (Reads.get (Reads.old (hLr j (by omega)))) rfl rfl (fun x53 hx53 => ?_))
                  refine ExL.pures 5 rfl ?_
                  refine ExL.nil ?_
                  refine Ex.regSeq (ExL.pures 2 rfl ?_)
                  refine ExL.free (fr_indexAddrF (Reads.old hL) encS_len rfl rfl rfl rfl rfl rfl (by omega)) rfl rfl rfl ?_
                  refine ExL.free (fr_load rfl rfl rfl rfl (by first | exact cellN (Reads.old hL) encS_len zS 0 rfl (by omega) rfl | exact cellF (Reads.old hL) encS_len zS 0 rfl (by omega) rfl)) rfl rfl rfl ?_
                  refine ExL.pures 1 rfl ?_
                  refine ExL.free (by first | exact fr_add64 rfl rfl rfl (by omega) | exact fr_add rfl rfl rfl) rfl rfl rfl ?_
                  refine ExL.op rfl (op_ret rfl rfl rfl (c_l06On (L.getD j zS).xs (by assumption) _ _ (by omega) _) (Reads.get (Reads.old (hLr j (by omega)))) rfl rfl (fun x54 hx54 => ?_))
                  refine ExL.pures 5 rfl ?_
                  refine ExL.nil ?_
                  refine Ex.region (ExL.pures 3 rfl ?_)
                  refine ExL.free (by first | exact fr_sub64 rfl rfl rfl (by omega) | exact fr_sub rfl rfl rfl) rfl rfl rfl ?_
                  refine ExL.free (by first | exact fr_add64 rfl rfl rfl (by omega) | exact fr_add rfl rfl rfl) rfl rfl rfl ?_
                  refine ExL.pures 1 rfl ?_
                  refine ExL.nil ?_
                  refine Ex.region (ExL.pures 1 rfl ?_)
                  refine ExL.free (by first | exact fr_add64 rfl rfl rfl (by omega) | exact fr_add rfl rfl rfl) rfl rfl rfl ?_
                  refine ExL.pures 1 rfl ?_
                  refine ExL.nil ?_
                  refine Hand.mk (j + 1) 1 [0] ⟨rfl, rfl, trivial⟩ ⟨rfl, rfl, rfl, rfl, rfl, rfl, rfl, rfl, rfl, rfl, trivial⟩ (rfl) rfl (by omega) (by omega)
                · refine ExL.nil ?_
                  refine Ex.cond_f rfl ?_
                  refine Ex.exit ?_
                  obtain rfl : j = L.length := (by omega)
                  have hsb := sumM_bd hLt ((comV (⟨As, cs, s⟩ :: L)).1 + (k : Int)) L.length (Nat.le_refl _)
                  refine Ex.regSeq (ExL.pures 2 rfl ?_)
                  refine ExL.free (by first | exact fr_sub64 rfl rfl rfl (by omega) | exact fr_sub rfl rfl rfl) rfl rfl rfl ?_
                  refine ExL.pures 2 rfl ?_
                  refine ExL.free (by first | exact fr_add64 rfl rfl rfl (by omega) | exact fr_add rfl rfl rfl) rfl rfl rfl ?_
                  refine ExL.gtr rfl rfl rfl rfl rfl rfl (fun h55 => ?_) (fun h55 => ?_)
                  · refine ExL.nil ?_
                    refine Ex.cond_t rfl ?_
                    refine Ex.region (ExL.pures 2 rfl ?_)
                    refine ExL.op rfl (op_buildSlice (sz := 1) rfl rfl rfl rfl rfl rfl rfl rfl (by decide) rfl rfl rfl (fun r56 => ?_))
                    refine ExL.op rfl (op_append (sz := 1) (bytes := 8) (i := 1) rfl rfl rfl rfl (Reads.row (i := 0) rfl) rfl (fun e => nomatch e) rfl rfl rfl rfl (by constructor <;> first | omega | (unfold maxLen; omega)) rfl rfl (fun A57 cA57 => ?_))
                    refine ExL.pures 1 rfl ?_
                    refine ExL.nil ?_
                    refine Ex.region (ExL.pures 1 rfl ?_)
                    refine ExL.free (by first | exact fr_add64 rfl rfl rfl (by omega) | exact fr_add rfl rfl rfl) rfl rfl rfl ?_
                    refine ExL.pures 1 rfl ?_
                    refine ExL.nil ?_
                    refine HandA.of (k + 1) (A57) (cA57) 2 [1] ⟨(by first | (rw [ll_y (by first | omega | (unfold moreV; omega)), List.length_append]; rfl) | (rw [ll_n (by first | omega | (unfold moreV; omega))]; first | done | rfl)), agI (by omega), trivial⟩ ⟨rfl, rfl, rfl, rfl, rfl, rfl, trivial⟩ (by first | (rw [ll_y (by first | omega | (unfold moreV; omega)), List.length_append, List.flatMap_append]; rfl) | (rw [ll_n (by first | omega | (unfold moreV; omega))]; first | done | rfl)) rfl (by omega) (by omega)
                  · refine ExL.nil ?_
                    refine Ex.cond_f rfl ?_
                    refine Ex.skip ?_
                    refine Ex.region (ExL.pures 1 rfl ?_)
                    refine ExL.free (by first | exact fr_add64 rfl rfl rfl (by omega) | exact fr_add rfl rfl rfl) rfl rfl rfl ?_
                    refine ExL.pures 1 rfl ?_
                    refine ExL.nil ?_
                    refine HandA.of (k + 1) (A) (c) 1 [0] ⟨(by first | (rw [ll_y (by first | omega | (unfold moreV; omega)), List.length_append]; rfl) | (rw [ll_n (by first | omega | (unfold moreV; omega))]; first | done | rfl)), agI (by omega), trivial⟩ ⟨rfl, rfl, rfl, rfl, rfl, rfl, trivial⟩ (by first | (rw [ll_y (by first | omega | (unfold moreV; omega)), List.length_append, List.flatMap_append]; rfl) | (rw [ll_n (by first | omega | (unfold moreV; omega))]; first | done | rfl)) rfl (by omega) (by omega)
              · refine ExL.nil ?_
                refine Ex.cond_f rfl ?_
                refine Ex.exit ?_
                have hkn : (k : Int) = (comV (⟨As, cs, s⟩ :: L)).2.1 - (comV (⟨As, cs, s⟩ :: L)).1 := by omega
                refine Ex.regSeq (ExL.pures 3 rfl ?_)
                refine ExL.nil ?_
                refine Ex.ret ?_
                refine RetQ.mk (A, c) rfl (.tmp rfl (.tmp rfl .nil)) (t2 (by first | (rw [lk_1 (av_no (k := k) (by omega) (by assumption))]; first | done | rfl) | (rw [lk_2 hav (by omega)]; first | done | rfl) | (rw [lk_6 (A := As) (c := cs) hav h16 (by omega)]; first | done | rfl) | (rw [lk_c (A := As) (c := cs) hav h16 (by omega) (by omega)]; first | done | rfl) | (rw [lk_0 hav h16 hc0 hkn]; first | done | rfl)) (by first | (rw [lk_1 (av_no (k := k) (by omega) (by assumption))]; first | done | rfl) | (rw [lk_2 hav (by omega)]; first | done | rfl) | (rw [lk_6 (A := As) (c := cs) hav h16 (by omega)]; first | done | rfl) | (rw [lk_c (A := As) (c := cs) hav h16 (by omega) (by omega)]; first | done | rfl) | (rw [lk_0 hav h16 hc0 hkn]; first | done | rfl))) [0] (by first | (rw [lk_1 (av_no (k := k) (by omega) (by assumption))]; first | done | rfl) | (rw [lk_2 hav (by omega)]; first | done | rfl) | (rw [lk_6 (A := As) (c := cs) hav h16 (by omega)]; first | done | rfl) | (rw [lk_c (A := As) (c := cs) hav h16 (by omega) (by omega)]; first | done | rfl) | (rw [lk_0 hav h16 hc0 hkn]; first | done | rfl)) rfl (trivial)
theorem e_30 : Enters Try.prog 30 := Enters.of Try.func30 rfl
theorem c_iLeaksIn (s : List VP) (As : Option Addr) (cs : Nat) (hls : s.length ≤ maxLen) (L : List VS) (AL : Option Addr) (cL : Nat) (hlL : L.length ≤ 1048576) (hAL : AL = none → L.length = 0 ∧ cL = 0) (hnL : ∀ k, k < L.length → (L.getD k zS).xs.length ≤ maxLen) (Ls : List (List VP)) (hLs : L.map (·.xs) = Ls) (wn : Int) : Ret Try.prog 30 [.slice As s.length cs, .slice AL L.length cL, .int .i64 wn] (fun w => Rd w As (s.flatMap encP) ∧ Rd w AL (L.flatMap encS) ∧ ∀ k, k < L.length → Rd w (L.getD k zS).A ((L.getD k zS).xs.flatMap encP)) (fun x : Option Addr × Nat => .tuple #[.slice x.1 (leakV s Ls wn).1.length x.2, .int .i64 (leakV s Ls wn).2]) (fun x => [.row (.slice x.1 (leakV s Ls wn).1.length x.2) 2 1 (leakV s Ls wn).1.length ((leakV s Ls wn).1.flatMap (eI .i64))]) (fun x => True) := by
  refine Ret.of e_30 Try.func30 rfl Try.ntmps30 rfl rfl (fun w hpre => ?_)
  have hs := hpre.1.base
  have hL := hpre.2.1.base
  have hLr := fun k hk => (hpre.2.2 k hk).base
  subst hLs
  have hm0 : maxLen = 9223372036854775807 := rfl
  refine Ex.regSeq (ExL.pures 2 rfl ?_)
  refine ExL.nil ?_
  refine Ex.regSeq (ExL.pures 1 rfl ?_)
  refine ExL.op rfl (op_buildSlice (sz := 1) rfl rfl rfl rfl rfl rfl rfl rfl (by decide) rfl rfl rfl (fun r1 => ?_))
  refine ExL.pures 1 rfl ?_
  refine ExL.op rfl (op_append (sz := 1) (bytes := 24) (i := 0) rfl rfl rfl rfl (Reads.old hL) (flat_len encS_len _) hAL (all_flat (fun _ => rfl) _) rfl rfl rfl (by constructor <;> first | omega | (unfold maxLen; omega)) rfl rfl (fun A2 cA2 => ?_))
  rw [Nat.add_comm 1 L.length]
  refine ExL.pures 1 rfl ?_
  refine ExL.nil ?_
  refine Ex.seq ?_
  refine Ex.regSeq (ExL.pures 1 rfl ?_)
  refine ExL.op rfl (op_ret rfl rfl rfl (c_slContainsFuncS (⟨As, cs, s⟩ :: L) _ _ (by first | omega | (simp only [List.length_cons]; omega)) (fun k hk => by match k, hk with | 0, _ => exact hls | k + 1, hk => have := hnL k (by simp at hk; omega); simpa using this)) (fun w hw => ⟨Reads.get (Reads.row (i := 0) rfl) w hw, rdC (Reads.get (Reads.old hs) w hw) (fun k hk => Reads.get (Reads.old (hLr k hk)) w hw)⟩) rfl rfl (fun x4 hx4 => ?_))
  refine ExL.nil ?_
  refine Ex.cond rfl (fun hb5 => ?_) (fun hb5 => ?_)
  · refine Ex.regSeq (ExL.pures 2 rfl ?_)
    refine ExL.nil ?_
    refine Ex.nilRow 2 1 ?_
    refine Ex.ret ?_
    refine RetQ.mk (none, 0) rfl (.tmp rfl (.tmp rfl .nil)) (t2 (by first | (rw [hfin]; first | done | rfl) | (rw [lk_3 hav h16 (by omega)]; first | done | rfl) | (rw [lk_2 hav (by omega)]; first | done | rfl) | (rw [lk_1a (by assumption)]; first | done | rfl)) (by first | (rw [hfin]; first | done | rfl) | (rw [lk_3 hav h16 (by omega)]; first | done | rfl) | (rw [lk_2 hav (by omega)]; first | done | rfl) | (rw [lk_1a (by assumption)]; first | done | rfl))) [0] (by first | (rw [hfin]; first | done | rfl) | (rw [lk_3 hav h16 (by omega)]; first | done | rfl) | (rw [lk_2 hav (by omega)]; first | done | rfl) | (rw [lk_1a (by assumption)]; first | done | rfl)) rfl (trivial)
  · refine Ex.skip ?_
    refine Ex.seq ?_
    have hav : allV s L = true := av_any (A := As) (c := cs) (by assumption)
    obtain ⟨hTs, hLt⟩ := av_tot hav
    refine Ex.regSeq (ExL.pures 2 rfl ?_)
    refine ExL.lss rfl rfl rfl rfl rfl rfl (fun h6 => ?_) (fun h6 => ?_)
    · refine ExL.pures 13 rfl ?_
      refine ExL.nil ?_
      refine Ex.cond_t rfl ?_
      refine Ex.regSeq (ExL.pures 2 rfl ?_)
      refine ExL.nil ?_
      refine Ex.nilRow 2 1 ?_
      refine Ex.ret ?_
      refine RetQ.mk (none, 0) rfl (.tmp rfl (.tmp rfl .nil)) (t2 (by first | (rw [hfin]; first | done | rfl) | (rw [lk_3 hav h16 (by omega)]; first | done | rfl) | (rw [lk_2 hav (by omega)]; first | done | rfl) | (rw [lk_1a (by assumption)]; first | done | rfl)) (by first | (rw [hfin]; first | done | rfl) | (rw [lk_3 hav h16 (by omega)]; first | done | rfl) | (rw [lk_2 hav (by omega)]; first | done | rfl) | (rw [lk_1a (by assumption)]; first | done | rfl))) [0] (by first | (rw [hfin]; first | done | rfl) | (rw [lk_3 hav h16 (by omega)]; first | done | rfl) | (rw [lk_2 hav (by omega)]; first | done | rfl) | (rw [lk_1a (by assumption)]; first | done | rfl)) rfl (trivial)
    · refine ExL.pures 3 rfl ?_
      refine ExL.gtr rfl rfl rfl rfl rfl rfl (fun h7 => ?_) (fun h7 => ?_)
      · refine ExL.pures 9 rfl ?_
        refine ExL.nil ?_
        refine Ex.cond_t rfl ?_
        refine Ex.regSeq (ExL.pures 2 rfl ?_)
        refine ExL.nil ?_
        refine Ex.nilRow 2 1 ?_
        refine Ex.ret ?_
        refine RetQ.mk (none, 0) rfl (.tmp rfl (.tmp rfl .nil)) (t2 (by first | (rw [hfin]; first | done | rfl) | (rw [lk_3 hav h16 (by omega)]; first | done | rfl) | (rw [lk_2 hav (by omega)]; first | done | rfl) | (rw [lk_1a (by assumption)]; first | done | rfl)) (by first | (rw [hfin]; first | done | rfl) | (rw [lk_3 hav h16 (by omega)]; first | done | rfl) | (rw [lk_2 hav (by omega)]; first | done | rfl) | (rw [lk_1a (by assumption)]; first | done | rfl))) [0] (by first | (rw [hfin]; first | done | rfl) | (rw [lk_3 hav h16 (by omega)]; first | done | rfl) | (rw [lk_2 hav (by omega)]; first | done | rfl) | (rw [lk_1a (by assumption)]; first | done | rfl)) rfl (trivial)
      · refine ExL.pures 3 rfl ?_
        refine ExL.lss rfl rfl rfl rfl rfl rfl (fun h8 => ?_) (fun h8 => ?_)
        · refine ExL.pures 5 rfl ?_
          refine ExL.nil ?_
          refine Ex.cond_t rfl ?_
          refine Ex.regSeq (ExL.pures 2 rfl ?_)
          refine ExL.nil ?_
          refine Ex.nilRow 2 1 ?_
          refine Ex.ret ?_
          refine RetQ.mk (none, 0) rfl (.tmp rfl (.tmp rfl .nil)) (t2 (by first | (rw [hfin]; first | done | rfl) | (rw [lk_3 hav h16 (by omega)]; first | done | rfl) | (rw [lk_2 hav (by omega)]; first | done | rfl) | (rw [lk_1a (by assumption)]; first | done | rfl)) (by first | (rw [hfin]; first | done | rfl) | (rw [lk_3 hav h16 (by omega)]; first | done | rfl) | (rw [lk_2 hav (by omega)]; first | done | rfl) | (rw [lk_1a (by assumption)]; first | done | rfl))) [0] (by first | (rw [hfin]; first | done | rfl) | (rw [lk_3 hav h16 (by omega)]; first | done | rfl) | (rw [lk_2 hav (by omega)]; first | done | rfl) | (rw [lk_1a (by assumption)]; first | done | rfl)) rfl (trivial)
        · refine ExL.pures 3 rfl ?_
          refine ExL.gtr rfl rfl rfl rfl rfl rfl (fun h9 => ?_) (fun h9 => ?_)
          · refine ExL.pures 1 rfl ?_
            refine ExL.nil ?_
            refine Ex.cond_t rfl ?_
            refine Ex.regSeq (ExL.pures 2 rfl ?_)
            refine ExL.nil ?_
            refine Ex.nilRow 2 1 ?_
            refine Ex.ret ?_
            refine RetQ.mk (none, 0) rfl (.tmp rfl (.tmp rfl .nil)) (t2 (by first | (rw [hfin]; first | done | rfl) | (rw [lk_3 hav h16 (by omega)]; first | done | rfl) | (rw [lk_2 hav (by omega)]; first | done | rfl) | (rw [lk_1a (by assumption)]; first | done | rfl)) (by first | (rw [hfin]; first | done | rfl) | (rw [lk_3 hav h16 (by omega)]; first | done | rfl) | (rw [lk_2 hav (by omega)]; first | done | rfl) | (rw [lk_1a (by assumption)]; first | done | rfl))) [0] (by first | (rw [hfin]; first | done | rfl) | (rw [lk_3 hav h16 (by omega)]; first | done | rfl) | (rw [lk_2 hav (by omega)]; first | done | rfl) | (rw [lk_1a (by assumption)]; first | done | rfl)) rfl (trivial)
          · refine ExL.pures 1 rfl ?_
            refine ExL.nil ?_
            refine Ex.cond_f rfl ?_
            refine Ex.skip ?_
            have h16 : (1 ≤ L.length ∧ L.length ≤ 6) ∧ 0 ≤ wn ∧ wn ≤ 1000000000000 := by omega
            have hcb := comI_bd (L := (⟨As, cs, s⟩ :: L)) (totC hTs hLt)
            refine Ex.regSeq (ExL.pures 1 rfl ?_)
            refine ExL.op rfl (op_ret rfl rfl rfl (c_commonDays (⟨As, cs, s⟩ :: L) (totC hTs hLt) _ _ (by first | omega | (simp; unfold maxLen; omega))) (fun w hw => ⟨Reads.get (Reads.row (i := 0) rfl) w hw, rdC (Reads.get (Reads.old hs) w hw) (fun k hk => Reads.get (Reads.old (hLr k hk)) w hw)⟩) rfl rfl (fun x10 hx10 => ?_))
            refine ExL.pures 5 rfl ?_
            refine ExL.nil ?_
            refine Ex.seq ?_
            refine Ex.regSeq (ExL.pures 2 rfl ?_)
            refine ExL.free (by first | exact fr_sub64 rfl rfl rfl (by omega) | exact fr_sub rfl rfl rfl) rfl rfl rfl ?_
            refine ExL.free (by first | exact fr_add64 rfl rfl rfl (by omega) | exact fr_add rfl rfl rfl) rfl rfl rfl ?_
            refine ExL.gtr rfl rfl rfl rfl rfl rfl (fun h11 => ?_) (fun h11 => ?_)
            · refine ExL.nil ?_
              refine Ex.cond_t rfl ?_
              refine Ex.regSeq (ExL.pures 2 rfl ?_)
              refine ExL.nil ?_
              refine Ex.nilRow 2 1 ?_
              refine Ex.ret ?_
              refine RetQ.mk (none, 0) rfl (.tmp rfl (.tmp rfl .nil)) (t2 (by first | (rw [hfin]; first | done | rfl) | (rw [lk_3 hav h16 (by omega)]; first | done | rfl) | (rw [lk_2 hav (by omega)]; first | done | rfl) | (rw [lk_1a (by assumption)]; first | done | rfl)) (by first | (rw [hfin]; first | done | rfl) | (rw [lk_3 hav h16 (by omega)]; first | done | rfl) | (rw [lk_2 hav (by omega)]; first | done | rfl) | (rw [lk_1a (by assumption)]; first | done | rfl))) [0] (by first | (rw [hfin]; first | done | rfl) | (rw [lk_3 hav h16 (by omega)]; first | done | rfl) | (rw [lk_2 hav (by omega)]; first | done | rfl) | (rw [lk_1a (by assumption)]; first | done | rfl)) rfl (trivial)
            · refine ExL.nil ?_
              refine Ex.cond_f rfl ?_
              refine Ex.skip ?_
              have hdy := lk_days (A := As) (c := cs) hav h16 (by omega)
              refine Ex.regSeq (ExL.pures 0 rfl ?_)
              refine ExL.op rfl (op_buildSlice (sz := 1) rfl rfl rfl rfl rfl rfl rfl rfl (by decide) rfl rfl rfl (fun r12 => ?_))
              refine ExL.pures 1 rfl ?_
              refine ExL.nil ?_
              refine Ex.seq ?_
              refine Ex.regSeq (ExL.pures 2 rfl ?_)
              refine ExL.nil ?_
              refine Ex.block ?_
              refine Ex.loopA (fun k A c => [(11, .slice A (leakL s L wn (comI (⟨As, cs, s⟩ :: L)).1 k).length c), (12, .int .i64 ((comI (⟨As, cs, s⟩ :: L)).1 + (k : Int)))]) (fun k A c => [.row (.slice A (leakL s L wn (comI (⟨As, cs, s⟩ :: L)).1 k).length c) 2 1 (leakL s L wn (comI (⟨As, cs, s⟩ :: L)).1 k).length ((leakL s L wn (comI (⟨As, cs, s⟩ :: L)).1 k).flatMap (eI .i64))]) (fun k => k = 0 ∨ (comI (⟨As, cs, s⟩ :: L)).1 + (k : Int) ≤ (comI (⟨As, cs, s⟩ :: L)).2) (fun k => (100001 - (comI (⟨As, cs, s⟩ :: L)).1).toNat - k) 0 ((some ⟨r12, 0, none⟩)) (0) [(0, _), (1, _), (2, _), (6, _), (7, _), (10, _)] [] 2 [0] ⟨rfl, agI (by omega), trivial⟩ ⟨rfl, rfl, rfl, rfl, rfl, rfl, trivial⟩ (rfl) rfl (by omega) (fun k A c hI => ?_)
              have hI : k = 0 ∨ (comI (⟨As, cs, s⟩ :: L)).1 + (k : Int) ≤ (comI (⟨As, cs, s⟩ :: L)).2 := hI
              have hll2 := leakL_len s L wn (comI (⟨As, cs, s⟩ :: L)).1 k
              refine Ex.seq ?_
              refine Ex.regSeq (ExL.pures 2 rfl ?_)
              refine ExL.lss rfl rfl rfl rfl rfl rfl (fun h13 => ?_) (fun h13 => ?_)
              · refine ExL.nil ?_
                refine Ex.cond_t rfl ?_
                refine Ex.skip ?_
                refine Ex.seq ?_
                refine Ex.block ?_
                obtain ⟨hCm, hle⟩ := hdy.resolve_left (fun h9 => by omega)
                have hcs : Covers s ((comI (⟨As, cs, s⟩ :: L)).1 + (k : Int)) := hCm.cov 0 (by simp) _ (by omega) (by omega)
                have hcs2 : Covers s ((comI (⟨As, cs, s⟩ :: L)).1 + (k : Int) + 1) := hCm.cov 0 (by simp) _ (by omega) (by omega)
                refine Ex.regSeq (ExL.pures 2 rfl ?_)
                refine ExL.nil ?_
                refine Ex.seq ?_
                refine Ex.regSeq (ExL.pures 3 rfl ?_)
                refine ExL.nil ?_
                refine Ex.block ?_
                refine Ex.loopK (X := Nat) (fun j => [(13, .int .i64 (wn + sumM L ((comI (⟨As, cs, s⟩ :: L)).1 + (k : Int)) j)), (58, .int .i64 j)]) (fun j => []) (fun j => j ≤ L.length) (fun j => L.length - j) 0 [(0, _), (1, _), (2, _), (6, _), (7, _), (10, _), (11, _), (12, _), (56, _), (57, _)] [_] 1 [0] ⟨agI (by simp [sumM]), rfl, trivial⟩ ⟨rfl, rfl, rfl, rfl, rfl, rfl, rfl, rfl, rfl, rfl, trivial⟩ (rfl) rfl (Nat.zero_le _) (fun j hI => ?_)
                have hI : j ≤ L.length := hI
                refine Ex.regSeq (ExL.pures 0 rfl ?_)
                refine ExL.lss rfl rfl rfl rfl rfl rfl (fun h14 => ?_) (fun h14 => ?_)
                · refine ExL.nil ?_
                  refine Ex.seq ?_
                  refine Ex.cond_t rfl ?_
                  refine Ex.skip ?_
                  refine Ex.seq ?_
                  refine Ex.block ?_
                  have hjl : j < L.length := by omega
                  have hnj := hnL j hjl
                  have hTj := hLt j hjl
                  have hmj := more_bd hTj ((comI (⟨As, cs, s⟩ :: L)).1 + (k : Int))
                  have hsb := sumM_bd hLt ((comI (⟨As, cs, s⟩ :: L)).1 + (k : Int)) j (by omega)
                  have hcj : Covers (L.getD j zS).xs ((comI (⟨As, cs, s⟩ :: L)).1 + (k : Int)) := by have := hCm.cov (j + 1) (by simp; omega) ((comI (⟨As, cs, s⟩ :: L)).1 + (k : Int)) (by omega) (by omega); simpa using this
                  have hcj2 : Covers (L.getD j zS).xs ((comI (⟨As, cs, s⟩ :: L)).1 + (k : Int) + 1) := by have := hCm.cov (j + 1) (by simp; omega) ((comI (⟨As, cs, s⟩ :: L)).1 + (k : Int) + 1) (by omega) (by omega); simpa using this
                  refine Ex.regSeq (ExL.pures 0 rfl ?_)
                  refine ExL.free (fr_indexAddrF (Reads.old hL) encS_len rfl rfl rfl rfl rfl rfl (by omega)) rfl rfl rfl ?_
                  refine ExL.free (fr_load rfl rfl rfl rfl (by first | exact cellN (Reads.old hL) encS_len zS 0 rfl (by omega) rfl | exact cellF (Reads.old hL) encS_len zS 0 rfl (by omega) rfl)) rfl rfl rfl ?_
                  refine ExL.pures 1 rfl ?_
                  refine ExL.nil ?_
                  refine Ex.region (ExL.pures 3 rfl ?_)
                  refine ExL.op rfl (op_ret rfl rfl rfl (c_more (L.getD j zS).xs (by assumption) _ _ (by omega) _ hcj hcj2) (Reads.get (Reads.old (hLr j (by omega)))) rfl rfl (fun x15 hx15 => ?_))
                  refine ExL.free (by first | exact fr_add64 rfl rfl rfl (by omega) | exact fr_add rfl rfl rfl) rfl rfl rfl ?_
                  refine ExL.pures 1 rfl ?_
                  refine ExL.nil ?_
                  refine Ex.region (ExL.pures 0 rfl ?_)
                  refine ExL.free (by first | exact fr_add64 rfl rfl rfl (by omega) | exact fr_add rfl rfl rfl) rfl rfl rfl ?_
                  refine ExL.pures 1 rfl ?_
                  refine ExL.nil ?_
                  refine Hand.mk (j + 1) 1 [0] ⟨agI (by rw [sumM]; omega), rfl, trivial⟩ ⟨rfl, rfl, rfl, rfl, rfl, rfl, rfl, rfl, rfl, rfl, trivial⟩ (rfl) rfl (by omega) (by omega)
                · refine ExL.nil ?_
                  refine Ex.seq ?_
                  refine Ex.cond_f rfl ?_
                  refine Ex.exit ?_
                  obtain rfl : j = L.length := (by omega)
                  have hsb := sumM_bd hLt ((comI (⟨As, cs, s⟩ :: L)).1 + (k : Int)) L.length (Nat.le_refl _)
                  have hmb := more_bd hTs ((comI (⟨As, cs, s⟩ :: L)).1 + (k : Int))
                  refine Ex.regSeq (ExL.pures 2 rfl ?_)
                  refine ExL.op rfl (op_ret rfl rfl rfl (c_more s (by assumption) _ _ (by omega) _ hcs hcs2) (Reads.get (Reads.old hs)) rfl rfl (fun x16 hx16 => ?_))
                  refine ExL.pures 1 rfl ?_
                  refine ExL.gtr rfl rfl rfl rfl rfl rfl (fun h17 => ?_) (fun h17 => ?_)
                  · refine ExL.nil ?_
                    refine Ex.cond_t rfl ?_
                    refine Ex.region (ExL.pures 2 rfl ?_)
                    refine ExL.op rfl (op_buildSlice (sz := 1) rfl rfl rfl rfl rfl rfl rfl rfl (by decide) rfl rfl rfl (fun r18 => ?_))
                    refine ExL.op rfl (op_append (sz := 1) (bytes := 8) (i := 1) rfl rfl rfl rfl (Reads.row (i := 0) rfl) rfl (fun e => nomatch e) rfl rfl rfl rfl (by constructor <;> first | omega | (unfold maxLen; omega)) rfl rfl (fun A19 cA19 => ?_))
                    refine ExL.pures 1 rfl ?_
                    refine ExL.nil ?_
                    refine Ex.region (ExL.pures 1 rfl ?_)
                    refine ExL.free (by first | exact fr_add64 rfl rfl rfl (by omega) | exact fr_add rfl rfl rfl) rfl rfl rfl ?_
                    refine ExL.pures 1 rfl ?_
                    refine ExL.nil ?_
                    refine HandA.of (k + 1) (A19) (cA19) 2 [1] ⟨(by first | (rw [ll_y (by first | omega | (unfold moreV; omega)), List.length_append]; rfl) | (rw [ll_n (by first | omega | (unfold moreV; omega))]; first | done | rfl)), agI (by omega), trivial⟩ ⟨rfl, rfl, rfl, rfl, rfl, rfl, trivial⟩ (by first | (rw [ll_y (by first | omega | (unfold moreV; omega)), List.length_append, List.flatMap_append]; rfl) | (rw [ll_n (by first | omega | (unfold moreV; omega))]; first | done | rfl)) rfl (by omega) (by omega)
                  · refine ExL.nil ?_
                    refine Ex.cond_f rfl ?_
                    refine Ex.skip ?_
                    refine Ex.region (ExL.pures 1 rfl ?_)
                    refine ExL.free (by first | exact fr_add64 rfl rfl rfl (by omega) | exact fr_add rfl rfl rfl) rfl rfl rfl ?_
                    refine ExL.pures 1 rfl ?_
                    refine ExL.nil ?_
                    refine HandA.of (k + 1) (A) (c) 1 [0] ⟨(by first | (rw [ll_y (by first | omega | (unfold moreV; omega)), List.length_append]; rfl) | (rw [ll_n (by first | omega | (unfold moreV; omega))]; first | done | rfl)), agI (by omega), trivial⟩ ⟨rfl, rfl, rfl, rfl, rfl, rfl, trivial⟩ (by first | (rw [ll_y (by first | omega | (unfold moreV; omega)), List.length_append, List.flatMap_append]; rfl) | (rw [ll_n (by first | omega | (unfold moreV; omega))]; first | done | rfl)) rfl (by omega) (by omega)
              · refine ExL.nil ?_
                refine Ex.cond_f rfl ?_
                refine Ex.exit ?_
                have hfin := lk_end hdy (fun h9 => h9.le) hI (by omega)
                refine Ex.regSeq (ExL.pures 3 rfl ?_)
                refine ExL.nil ?_
                refine Ex.ret ?_
                refine RetQ.mk (A, c) rfl (.tmp rfl (.tmp rfl .nil)) (t2 (by first | (rw [hfin]; first | done | rfl) | (rw [lk_3 hav h16 (by omega)]; first | done | rfl) | (rw [lk_2 hav (by omega)]; first | done | rfl) | (rw [lk_1a (by assumption)]; first | done | rfl)) (by first | (rw [hfin]; first | done | rfl) | (rw [lk_3 hav h16 (by omega)]; first | done | rfl) | (rw [lk_2 hav (by omega)]; first | done | rfl) | (rw [lk_1a (by assumption)]; first | done | rfl))) [0] (by first | (rw [hfin]; first | done | rfl) | (rw [lk_3 hav h16 (by omega)]; first | done | rfl) | (rw [lk_2 hav (by omega)]; first | done | rfl) | (rw [lk_1a (by assumption)]; first | done | rfl)) rfl (trivial)
end Go.Proofs.Ytepahnikcojepaa
