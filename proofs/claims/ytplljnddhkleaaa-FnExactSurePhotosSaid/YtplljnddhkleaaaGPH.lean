/- What these functions of the program hand back, each proved by walking its operations. -/
import Derived.Test.YtplljnddhkleaaaProg
import Derived.Test.YtplljnddhkleaaaFw
import Derived.Test.YtplljnddhkleaaaM41
import Derived.Test.YtplljnddhkleaaaGPG
set_option linter.unusedVariables false
set_option linter.unusedSimpArgs false
set_option maxRecDepth 4000
namespace Go.Proofs.Ytplljnddhkleaaa
open Go Go.Sx Go.RowKit Go.W Go.Proofs
attribute [local irreducible] Ex ExL ExD Op1 Free RetQ MutQ Reads CellO SegO LoadsAs
theorem e_36 : Enters Try.prog 36 := Enters.of Try.func36 rfl
theorem c_iCheck_f (s : List Int) (hu : Nums 255 s) (As : Option Addr) (cs : Nat) (hls : s.length ≤ maxLen) (L : List VPh) (hLk : ∀ k, k < L.length → OkPh (L.getD k zPh)) (bl cL : Nat) (hlL : L.length ≤ maxLen) (lo hi : Int) (vs : List Int) (Avs : Option Addr) (cvs : Nat) (hlv : vs.length ≤ maxLen) (hc0 : codeF s L lo hi lo ≠ 0) : Ret Try.prog 36 [.slice As s.length cs, .slice (some ⟨bl, 0, none⟩) L.length cL, .slice Avs vs.length cvs, .int .i64 lo, .int .i64 hi] (fun w => Rd w As (s.flatMap (eI .u8)) ∧ Rd w (some ⟨bl, 0, none⟩) (L.flatMap encPh) ∧ Rd w Avs (vs.flatMap (eI .i64))) (fun x : Unit => .tuple #[.bool (checkV s L vs lo hi).1, .int .i64 (checkV s L vs lo hi).2]) (fun x => []) (fun x => True) := by
  refine Ret.of e_36 Try.func36 rfl Try.ntmps36 rfl rfl (fun w hpre => ?_)
  have hs := hpre.1.base
  have hLr := hpre.2.1.base
  have hvs := hpre.2.2.base
  have hm0 : maxLen = 9223372036854775807 := rfl
  refine Ex.regSeq (ExL.pures 2 rfl ?_)
  refine ExL.nil ?_
  refine Ex.regSeq (ExL.pures 5 rfl ?_)
  refine ExL.op rfl (op_ret rfl rfl rfl (c_filmOf_f s (by assumption) _ _ (by omega) L (by assumption) _ _ (by omega) lo hi lo hc0) (fun w hw => ⟨Reads.get (Reads.old hs) w hw, Reads.get (Reads.old hLr) w hw⟩) rfl rfl (fun x1 hx1 => ?_))
  refine ExL.pures 5 rfl ?_
  refine ExL.nil ?_
  refine Ex.seq ?_
  refine Ex.regSeq (ExL.pures 1 rfl ?_)
  refine ExL.neq rfl rfl rfl rfl rfl rfl (fun h2 => ?_) (fun h2 => ?_)
  · refine ExL.nil ?_
    refine Ex.cond_t rfl ?_
    refine Ex.regSeq (ExL.pures 3 rfl ?_)
    refine ExL.nil ?_
    refine Ex.ret ?_
    refine RetQ.mk () rfl (.tmp rfl (.tmp rfl .nil)) (t2 (vB (by first | (rw [ck_c hc0]; first | done | rfl))) (vI (by first | (rw [ck_c hc0]; first | done | rfl)))) [] (rfl) rfl (trivial)
  · refine ExL.nil ?_
    refine Ex.cond_f rfl ?_
    refine Ex.skip ?_
    refine Ex.seq ?_
    exfalso; omega
theorem c_iCheck_t (s : List Int) (hu : Nums 255 s) (As : Option Addr) (cs : Nat) (hls : s.length ≤ maxLen) (L : List VPh) (hLk : ∀ k, k < L.length → OkPh (L.getD k zPh)) (bl cL : Nat) (hlL : L.length ≤ maxLen) (lo hi : Int) (vs : List Int) (Avs : Option Addr) (cvs : Nat) (hlv : vs.length ≤ maxLen) (hc0 : codeF s L lo hi lo = 0) : Ret Try.prog 36 [.slice As s.length cs, .slice (some ⟨bl, 0, none⟩) L.length cL, .slice Avs vs.length cvs, .int .i64 lo, .int .i64 hi] (fun w => Rd w As (s.flatMap (eI .u8)) ∧ Rd w (some ⟨bl, 0, none⟩) (L.flatMap encPh) ∧ Rd w Avs (vs.flatMap (eI .i64))) (fun x : Unit => .tuple #[.bool (checkV s L vs lo hi).1, .int .i64 (checkV s L vs lo hi).2]) (fun x => []) (fun x => True) := by
  refine Ret.of e_36 Try.func36 rfl Try.ntmps36 rfl rfl (fun w hpre => ?_)
  have hs := hpre.1.base
  have hLr := hpre.2.1.base
  have hvs := hpre.2.2.base
  have hm0 : maxLen = 9223372036854775807 := rfl
  have hLo : ∀ p ∈ L, OkPh p := fun p hp => by obtain ⟨i, hi, rfl⟩ := List.getElem_of_mem hp; have := hLk i hi; simpa [List.getD, hi] using this
  have hF := film hLo hc0
  have hl0 := hF.l0
  have hlh := hF.le
  have hh1 := hF.h1
  have hS := hF.st
  have hv := hF.vs
  have hn1 := hF.len
  refine Ex.regSeq (ExL.pures 2 rfl ?_)
  refine ExL.nil ?_
  refine Ex.regSeq (ExL.pures 5 rfl ?_)
  refine ExL.op rfl (op_ret rfl rfl rfl (c_filmOf_t s (by assumption) _ _ (by omega) L (by assumption) _ _ (by omega) lo hi lo hc0) (fun w hw => ⟨Reads.get (Reads.old hs) w hw, Reads.get (Reads.old hLr) w hw⟩) rfl rfl (fun x1 hx1 => ?_))
  have hfk := fk hF hx1
  have hkl := hfk.len
  have hfv := hfk.v
  have hfl := hfk.vl
  refine ExL.pures 5 rfl ?_
  refine ExL.nil ?_
  refine Ex.seq ?_
  refine Ex.regSeq (ExL.pures 1 rfl ?_)
  refine ExL.neq rfl rfl rfl rfl rfl rfl (fun h2 => ?_) (fun h2 => ?_)
  · refine ExL.nil ?_
    refine Ex.cond_t rfl ?_
    exfalso; omega
  · refine ExL.nil ?_
    refine Ex.cond_f rfl ?_
    refine Ex.skip ?_
    refine Ex.seq ?_
    refine Ex.regSeq (ExL.pures 4 rfl ?_)
    refine ExL.neq rfl rfl rfl rfl rfl rfl (fun h3 => ?_) (fun h3 => ?_)
    · refine ExL.nil ?_
      refine Ex.cond_t rfl ?_
      refine Ex.regSeq (ExL.pures 2 rfl ?_)
      refine ExL.nil ?_
      refine Ex.ret ?_
      refine RetQ.mk () rfl (.tmp rfl (.tmp rfl .nil)) (t2 (vB (by first | (rw [ck_l hc0 (by omega)]; first | done | rfl) | (rw [ckn (k := k) hx1 hc0 (by omega) (wo_f1 (by assumption))]; first | done | rfl) | (rw [ckn (k := k) hx1 hc0 (by omega) (wo_f2 (by omega) (by assumption))]; first | done | rfl) | (rw [cky (k := k) hx1 hc0 (by omega) (by omega) hall]; first | done | rfl))) (vI (by first | (rw [ck_l hc0 (by omega)]; first | done | rfl) | (rw [ckn (k := k) hx1 hc0 (by omega) (wo_f1 (by assumption))]; first | done | rfl) | (rw [ckn (k := k) hx1 hc0 (by omega) (wo_f2 (by omega) (by assumption))]; first | done | rfl) | (rw [cky (k := k) hx1 hc0 (by omega) (by omega) hall]; first | done | rfl)))) [] (rfl) rfl (trivial)
    · refine ExL.nil ?_
      refine Ex.cond_f rfl ?_
      refine Ex.skip ?_
      refine Ex.seq ?_
      refine Ex.regSeq (ExL.pures 3 rfl ?_)
      refine ExL.nil ?_
      refine Ex.block ?_
      refine Ex.loopK (X := Nat) (fun k => [(35, .int .i64 k)]) (fun k => []) (fun k => k ≤ vs.length ∧ ∀ i, i < k → wayOk lo hi (fun k => (x1.K.getD k zX).xs) vs i = true) (fun k => vs.length - k) 0 [(2, _), (12, _), (33, _), (34, _)] [_, _, _] 3 [0, 1, 2] ⟨rfl, trivial⟩ ⟨rfl, rfl, rfl, rfl, trivial⟩ (rfl) rfl ⟨Nat.zero_le _, fun i hi => by omega⟩ (fun k hI => ?_)
      have hI : k ≤ vs.length ∧ ∀ i, i < k → wayOk lo hi (fun k => (x1.K.getD k zX).xs) vs i = true := hI
      obtain ⟨hk, hall⟩ := hI
      refine Ex.regSeq (ExL.pures 0 rfl ?_)
      refine ExL.lss rfl rfl rfl rfl rfl rfl (fun h4 => ?_) (fun h4 => ?_)
      · refine ExL.nil ?_
        refine Ex.seq ?_
        refine Ex.cond_t rfl ?_
        refine Ex.skip ?_
        refine Ex.seq ?_
        refine Ex.block ?_
        have hkv : k < vs.length := by omega
        have hvl := hfl k (by omega)
        have hpv : 0 < k → 0 ≤ vs.getD (k - 1) 0 ∧ vs.getD (k - 1) 0 < 1000000000000 := fun h => has_bd hfk (by omega) (wo_has (hall (k - 1) (by omega)))
        refine Ex.regSeq (ExL.pures 1 rfl ?_)
        refine ExL.free (fr_indexAddrF (Reads.old hvs) (eI_len .i64) rfl rfl rfl rfl rfl rfl (by omega)) rfl rfl rfl ?_
        refine ExL.free (fr_load rfl rfl rfl rfl (by first | exact cellN (Reads.old hvs) (eI_len .i64) 0 0 rfl (by omega) rfl | exact cellF (Reads.old hvs) (eI_len .i64) 0 0 rfl (by omega) rfl)) rfl rfl rfl ?_
        refine ExL.pures 2 rfl ?_
        refine ExL.nil ?_
        refine Ex.regSeq (ExL.pures 3 rfl ?_)
        refine ExL.free (fr_load rfl rfl rfl rfl (CellO.blk (i := 0) rfl rfl)) rfl rfl rfl ?_
        refine ExL.pures 1 rfl ?_
        refine ExL.free (fr_indexAddrR (sz := 1) 1 rfl rfl rfl rfl rfl rfl (by omega)) rfl rfl rfl ?_
        refine ExL.free (fr_load rfl rfl rfl rfl (by first | exact cellN (Reads.row (i := 1) rfl) encX_len zX 0 rfl (by omega) rfl | exact cellF (Reads.row (i := 1) rfl) encX_len zX 0 rfl (by omega) rfl)) rfl rfl rfl ?_
        refine ExL.pures 1 rfl ?_
        refine ExL.op rfl (op_ret rfl rfl rfl (c_nContains (x1.K.getD k zX).xs _ _ (by omega) (vs.getD k 0)) (Reads.get (readsX (i := 2) rfl (k := k) (by omega))) rfl rfl (fun x5 hx5 => ?_))
        refine ExL.pures 2 rfl ?_
        refine ExL.bool (d := 50) rfl (fun hb6 => ?_) (fun hb6 => ?_)
        · replace hb6 := nb_t hb6
          refine ExL.pures 14 rfl ?_
          refine ExL.nil ?_
          refine Ex.cond_t rfl ?_
          refine Ex.regSeq (ExL.pures 2 rfl ?_)
          refine ExL.nil ?_
          refine Ex.ret ?_
          refine RetQ.mk () rfl (.tmp rfl (.tmp rfl .nil)) (t2 (vB (by first | (rw [ck_l hc0 (by omega)]; first | done | rfl) | (rw [ckn (k := k) hx1 hc0 (by omega) (wo_f1 (by assumption))]; first | done | rfl) | (rw [ckn (k := k) hx1 hc0 (by omega) (wo_f2 (by omega) (by assumption))]; first | done | rfl) | (rw [cky (k := k) hx1 hc0 (by omega) (by omega) hall]; first | done | rfl))) (vI (by first | (rw [ck_l hc0 (by omega)]; first | done | rfl) | (rw [ckn (k := k) hx1 hc0 (by omega) (wo_f1 (by assumption))]; first | done | rfl) | (rw [ckn (k := k) hx1 hc0 (by omega) (wo_f2 (by omega) (by assumption))]; first | done | rfl) | (rw [cky (k := k) hx1 hc0 (by omega) (by omega) hall]; first | done | rfl)))) [] (rfl) rfl (trivial)
        · replace hb6 := nb_f hb6
          refine ExL.pures 1 rfl ?_
          refine ExL.gtr rfl rfl rfl rfl rfl rfl (fun h7 => ?_) (fun h7 => ?_)
          · refine ExL.pures 4 rfl ?_
            refine ExL.free (by first | exact fr_sub64 rfl rfl rfl (by omega) | exact fr_sub rfl rfl rfl) rfl rfl rfl ?_
            refine ExL.free (fr_indexAddrF (Reads.old hvs) (eI_len .i64) rfl rfl rfl rfl rfl rfl (by omega)) rfl rfl rfl ?_
            refine ExL.free (fr_load rfl rfl rfl rfl (cellJ (i := (↑k - 1)) ((k - 1)) (Reads.old hvs) (eI_len .i64) 0 0 rfl (by omega) (by omega) rfl)) rfl rfl rfl ?_
            refine ExL.pures 1 rfl ?_
            refine ExL.op rfl (op_ret rfl rfl rfl (c_goes _ lo hi (by omega) _ _ _ (by have := hpv (by omega); omega) (by have := has_bd hfk (show k < L.length by omega) (by assumption); omega)) (Reads.get (Reads.blk (i := 0) rfl)) rfl rfl (fun x8 hx8 => ?_))
            refine ExL.pures 3 rfl ?_
            refine ExL.nil ?_
            refine Ex.cond rfl (fun hb9 => ?_) (fun hb9 => ?_)
            · replace hb9 := nb_t hb9
              refine Ex.regSeq (ExL.pures 2 rfl ?_)
              refine ExL.nil ?_
              refine Ex.ret ?_
              refine RetQ.mk () rfl (.tmp rfl (.tmp rfl .nil)) (t2 (vB (by first | (rw [ck_l hc0 (by omega)]; first | done | rfl) | (rw [ckn (k := k) hx1 hc0 (by omega) (wo_f1 (by assumption))]; first | done | rfl) | (rw [ckn (k := k) hx1 hc0 (by omega) (wo_f2 (by omega) (by assumption))]; first | done | rfl) | (rw [cky (k := k) hx1 hc0 (by omega) (by omega) hall]; first | done | rfl))) (vI (by first | (rw [ck_l hc0 (by omega)]; first | done | rfl) | (rw [ckn (k := k) hx1 hc0 (by omega) (wo_f1 (by assumption))]; first | done | rfl) | (rw [ckn (k := k) hx1 hc0 (by omega) (wo_f2 (by omega) (by assumption))]; first | done | rfl) | (rw [cky (k := k) hx1 hc0 (by omega) (by omega) hall]; first | done | rfl)))) [] (rfl) rfl (trivial)
            · replace hb9 := nb_f hb9
              refine Ex.skip ?_
              refine Ex.region (ExL.pures 0 rfl ?_)
              refine ExL.free (by first | exact fr_add64 rfl rfl rfl (by omega) | exact fr_add rfl rfl rfl) rfl rfl rfl ?_
              refine ExL.pures 1 rfl ?_
              refine ExL.nil ?_
              refine Hand.mk (k + 1) 3 [0, 1, 2] ⟨rfl, trivial⟩ ⟨rfl, rfl, rfl, rfl, trivial⟩ (rfl) rfl (⟨by omega, all_snoc hall (wo_t (by assumption) (by first | exact .inl (by omega) | exact .inr (by assumption)))⟩) (by omega)
          · refine ExL.pures 12 rfl ?_
            refine ExL.nil ?_
            refine Ex.cond_f rfl ?_
            refine Ex.skip ?_
            refine Ex.region (ExL.pures 0 rfl ?_)
            refine ExL.free (by first | exact fr_add64 rfl rfl rfl (by omega) | exact fr_add rfl rfl rfl) rfl rfl rfl ?_
            refine ExL.pures 1 rfl ?_
            refine ExL.nil ?_
            refine Hand.mk (k + 1) 3 [0, 1, 2] ⟨rfl, trivial⟩ ⟨rfl, rfl, rfl, rfl, trivial⟩ (rfl) rfl (⟨by omega, all_snoc hall (wo_t (by assumption) (by first | exact .inl (by omega) | exact .inr (by assumption)))⟩) (by omega)
      · refine ExL.nil ?_
        refine Ex.seq ?_
        refine Ex.cond_f rfl ?_
        refine Ex.exit ?_
        refine Ex.regSeq (ExL.pures 2 rfl ?_)
        refine ExL.nil ?_
        refine Ex.ret ?_
        refine RetQ.mk () rfl (.tmp rfl (.tmp rfl .nil)) (t2 (vB (by first | (rw [ck_l hc0 (by omega)]; first | done | rfl) | (rw [ckn (k := k) hx1 hc0 (by omega) (wo_f1 (by assumption))]; first | done | rfl) | (rw [ckn (k := k) hx1 hc0 (by omega) (wo_f2 (by omega) (by assumption))]; first | done | rfl) | (rw [cky (k := k) hx1 hc0 (by omega) (by omega) hall]; first | done | rfl))) (vI (by first | (rw [ck_l hc0 (by omega)]; first | done | rfl) | (rw [ckn (k := k) hx1 hc0 (by omega) (wo_f1 (by assumption))]; first | done | rfl) | (rw [ckn (k := k) hx1 hc0 (by omega) (wo_f2 (by omega) (by assumption))]; first | done | rfl) | (rw [cky (k := k) hx1 hc0 (by omega) (by omega) hall]; first | done | rfl)))) [] (rfl) rfl (trivial)
theorem c_iCheck (s : List Int) (hu : Nums 255 s) (As : Option Addr) (cs : Nat) (hls : s.length ≤ maxLen) (L : List VPh) (hLk : ∀ k, k < L.length → OkPh (L.getD k zPh)) (bl cL : Nat) (hlL : L.length ≤ maxLen) (lo hi : Int) (vs : List Int) (Avs : Option Addr) (cvs : Nat) (hlv : vs.length ≤ maxLen) : Ret Try.prog 36 [.slice As s.length cs, .slice (some ⟨bl, 0, none⟩) L.length cL, .slice Avs vs.length cvs, .int .i64 lo, .int .i64 hi] (fun w => Rd w As (s.flatMap (eI .u8)) ∧ Rd w (some ⟨bl, 0, none⟩) (L.flatMap encPh) ∧ Rd w Avs (vs.flatMap (eI .i64))) (fun x : Unit => .tuple #[.bool (checkV s L vs lo hi).1, .int .i64 (checkV s L vs lo hi).2]) (fun x => []) (fun x => True) := by
  by_cases h : codeF s L lo hi lo = 0
  · exact c_iCheck_t s hu As cs hls L hLk bl cL hlL lo hi vs Avs cvs hlv h
  · exact c_iCheck_f s hu As cs hls L hLk bl cL hlL lo hi vs Avs cvs hlv h
theorem e_34 : Enters Try.prog 34 := Enters.of Try.func34 rfl
theorem c_sCheck_f (s : List Int) (hu : Nums 255 s) (As : Option Addr) (cs : Nat) (hls : s.length ≤ maxLen) (L : List VPh) (hLk : ∀ k, k < L.length → OkPh (L.getD k zPh)) (bl cL : Nat) (hlL : L.length ≤ maxLen) (lo hi : Int) (vs : List Int) (Avs : Option Addr) (cvs : Nat) (hlv : vs.length ≤ maxLen) (hc0 : codeF s L lo hi lo ≠ 0) : Ret Try.prog 34 [.slice As s.length cs, .slice (some ⟨bl, 0, none⟩) L.length cL, .slice Avs vs.length cvs, .int .i64 lo, .int .i64 hi] (fun w => Rd w As (s.flatMap (eI .u8)) ∧ Rd w (some ⟨bl, 0, none⟩) (L.flatMap encPh) ∧ Rd w Avs (vs.flatMap (eI .i64))) (fun x : Unit => .tuple #[.bool (checkV s L vs lo hi).1, .int .i64 (checkV s L vs lo hi).2]) (fun x => []) (fun x => True) := by
  refine Ret.of e_34 Try.func34 rfl Try.ntmps34 rfl rfl (fun w hpre => ?_)
  have hs := hpre.1.base
  have hLr := hpre.2.1.base
  have hvs := hpre.2.2.base
  have hm0 : maxLen = 9223372036854775807 := rfl
  refine Ex.regSeq (ExL.pures 2 rfl ?_)
  refine ExL.nil ?_
  refine Ex.regSeq (ExL.pures 4 rfl ?_)
  refine ExL.op rfl (op_ret rfl rfl rfl (c_l05Begin_f s (by assumption) _ _ (by omega) L (by assumption) _ _ (by omega) lo hi hc0) (fun w hw => ⟨Reads.get (Reads.old hs) w hw, Reads.get (Reads.old hLr) w hw⟩) rfl rfl (fun x1 hx1 => ?_))
  refine ExL.pures 5 rfl ?_
  refine ExL.nil ?_
  refine Ex.seq ?_
  refine Ex.regSeq (ExL.pures 1 rfl ?_)
  refine ExL.neq rfl rfl rfl rfl rfl rfl (fun h2 => ?_) (fun h2 => ?_)
  · refine ExL.nil ?_
    refine Ex.cond_t rfl ?_
    refine Ex.regSeq (ExL.pures 3 rfl ?_)
    refine ExL.nil ?_
    refine Ex.ret ?_
    refine RetQ.mk () rfl (.tmp rfl (.tmp rfl .nil)) (t2 (vB (by first | (rw [ck_c hc0]; first | done | rfl))) (vI (by first | (rw [ck_c hc0]; first | done | rfl)))) [] (rfl) rfl (trivial)
  · refine ExL.nil ?_
    refine Ex.cond_f rfl ?_
    refine Ex.skip ?_
    refine Ex.seq ?_
    exfalso; omega
theorem c_sCheck_t (s : List Int) (hu : Nums 255 s) (As : Option Addr) (cs : Nat) (hls : s.length ≤ maxLen) (L : List VPh) (hLk : ∀ k, k < L.length → OkPh (L.getD k zPh)) (bl cL : Nat) (hlL : L.length ≤ maxLen) (lo hi : Int) (vs : List Int) (Avs : Option Addr) (cvs : Nat) (hlv : vs.length ≤ maxLen) (hc0 : codeF s L lo hi lo = 0) : Ret Try.prog 34 [.slice As s.length cs, .slice (some ⟨bl, 0, none⟩) L.length cL, .slice Avs vs.length cvs, .int .i64 lo, .int .i64 hi] (fun w => Rd w As (s.flatMap (eI .u8)) ∧ Rd w (some ⟨bl, 0, none⟩) (L.flatMap encPh) ∧ Rd w Avs (vs.flatMap (eI .i64))) (fun x : Unit => .tuple #[.bool (checkV s L vs lo hi).1, .int .i64 (checkV s L vs lo hi).2]) (fun x => []) (fun x => True) := by
  refine Ret.of e_34 Try.func34 rfl Try.ntmps34 rfl rfl (fun w hpre => ?_)
  have hs := hpre.1.base
  have hLr := hpre.2.1.base
  have hvs := hpre.2.2.base
  have hm0 : maxLen = 9223372036854775807 := rfl
  have hLo : ∀ p ∈ L, OkPh p := fun p hp => by obtain ⟨i, hi, rfl⟩ := List.getElem_of_mem hp; have := hLk i hi; simpa [List.getD, hi] using this
  have hF := film hLo hc0
  have hl0 := hF.l0
  have hlh := hF.le
  have hh1 := hF.h1
  have hS := hF.st
  have hv := hF.vs
  have hn1 := hF.len
  refine Ex.regSeq (ExL.pures 2 rfl ?_)
  refine ExL.nil ?_
  refine Ex.regSeq (ExL.pures 4 rfl ?_)
  refine ExL.op rfl (op_ret rfl rfl rfl (c_l05Begin_t s (by assumption) _ _ (by omega) L (by assumption) _ _ (by omega) lo hi hc0) (fun w hw => ⟨Reads.get (Reads.old hs) w hw, Reads.get (Reads.old hLr) w hw⟩) rfl rfl (fun x1 hx1 => ?_))
  have hfk := fk hF hx1
  have hkl := hfk.len
  have hfv := hfk.v
  have hfl := hfk.vl
  refine ExL.pures 5 rfl ?_
  refine ExL.nil ?_
  refine Ex.seq ?_
  refine Ex.regSeq (ExL.pures 1 rfl ?_)
  refine ExL.neq rfl rfl rfl rfl rfl rfl (fun h2 => ?_) (fun h2 => ?_)
  · refine ExL.nil ?_
    refine Ex.cond_t rfl ?_
    exfalso; omega
  · refine ExL.nil ?_
    refine Ex.cond_f rfl ?_
    refine Ex.skip ?_
    refine Ex.seq ?_
    refine Ex.regSeq (ExL.pures 4 rfl ?_)
    refine ExL.neq rfl rfl rfl rfl rfl rfl (fun h3 => ?_) (fun h3 => ?_)
    · refine ExL.nil ?_
      refine Ex.cond_t rfl ?_
      refine Ex.regSeq (ExL.pures 2 rfl ?_)
      refine ExL.nil ?_
      refine Ex.ret ?_
      refine RetQ.mk () rfl (.tmp rfl (.tmp rfl .nil)) (t2 (vB (by first | (rw [ck_l hc0 (by omega)]; first | done | rfl) | (rw [ckn (k := k) hx1 hc0 (by omega) (wo_f1 (by assumption))]; first | done | rfl) | (rw [ckn (k := k) hx1 hc0 (by omega) (wo_f2 (by omega) (by assumption))]; first | done | rfl) | (rw [cky (k := k) hx1 hc0 (by omega) (by omega) hall]; first | done | rfl))) (vI (by first | (rw [ck_l hc0 (by omega)]; first | done | rfl) | (rw [ckn (k := k) hx1 hc0 (by omega) (wo_f1 (by assumption))]; first | done | rfl) | (rw [ckn (k := k) hx1 hc0 (by omega) (wo_f2 (by omega) (by assumption))]; first | done | rfl) | (rw [cky (k := k) hx1 hc0 (by omega) (by omega) hall]; first | done | rfl)))) [] (rfl) rfl (trivial)
    · refine ExL.nil ?_
      refine Ex.cond_f rfl ?_
      refine Ex.skip ?_
      refine Ex.seq ?_
      refine Ex.regSeq (ExL.pures 1 rfl ?_)
      refine ExL.nil ?_
      refine Ex.block ?_
      refine Ex.loopK (X := Nat) (fun k => [(14, .int .i64 k)]) (fun k => []) (fun k => k ≤ vs.length ∧ ∀ i, i < k → wayOk lo hi (fun k => (x1.K.getD k zX).xs) vs i = true) (fun k => vs.length - k) 0 [(2, _), (12, _)] [_, _, _] 3 [0, 1, 2] ⟨rfl, trivial⟩ ⟨rfl, rfl, trivial⟩ (rfl) rfl ⟨Nat.zero_le _, fun i hi => by omega⟩ (fun k hI => ?_)
      have hI : k ≤ vs.length ∧ ∀ i, i < k → wayOk lo hi (fun k => (x1.K.getD k zX).xs) vs i = true := hI
      obtain ⟨hk, hall⟩ := hI
      refine Ex.seq ?_
      refine Ex.regSeq (ExL.pures 3 rfl ?_)
      refine ExL.lss rfl rfl rfl rfl rfl rfl (fun h4 => ?_) (fun h4 => ?_)
      · refine ExL.nil ?_
        refine Ex.cond_t rfl ?_
        refine Ex.skip ?_
        refine Ex.seq ?_
        refine Ex.block ?_
        have hkv : k < vs.length := by omega
        have hvl := hfl k (by omega)
        have hpv : 0 < k → 0 ≤ vs.getD (k - 1) 0 ∧ vs.getD (k - 1) 0 < 1000000000000 := fun h => has_bd hfk (by omega) (wo_has (hall (k - 1) (by omega)))
        refine Ex.drawSeqM rfl ?_
        refine ExD.take (i := 0) rfl (by kernel_rfl) (pureVal_ok rfl) ((List.Sublist.refl _)) rfl rfl rfl ?_
        refine ExD.take (i := 1) rfl (by kernel_rfl) (pureVal_ok rfl) ((List.Sublist.refl _)) rfl rfl rfl ?_
        refine ExD.take (i := 2) rfl (by kernel_rfl) (pureVal_ok rfl) ((List.Sublist.refl _)) rfl rfl rfl ?_
        refine ExD.take (i := 3) rfl (by kernel_rfl) (fr_load rfl rfl rfl rfl (CellO.blk (i := 0) rfl rfl)) ((List.Sublist.refl _)) rfl rfl rfl ?_
        refine ExD.take (i := 4) rfl (by kernel_rfl) (pureVal_ok rfl) ((List.Sublist.refl _)) rfl rfl rfl ?_
        refine ExD.take (i := 5) rfl (by kernel_rfl) (fr_indexAddrR (sz := 1) 1 rfl rfl rfl rfl rfl rfl (by omega)) ((List.Sublist.refl _)) rfl rfl rfl ?_
        refine ExD.take (i := 6) rfl (by kernel_rfl) (fr_load rfl rfl rfl rfl (by first | exact cellN (Reads.row (i := 1) rfl) encX_len zX 0 rfl (by omega) rfl | exact cellF (Reads.row (i := 1) rfl) encX_len zX 0 rfl (by omega) rfl)) ((List.Sublist.refl _)) rfl rfl rfl ?_
        refine ExD.take (i := 7) rfl (by kernel_rfl) (pureVal_ok rfl) ((List.Sublist.refl _)) rfl rfl rfl ?_
        refine ExD.take (i := 8) rfl (by kernel_rfl) (pureVal_ok rfl) ((List.Sublist.refl _)) rfl rfl rfl ?_
        refine ExD.take (i := 9) rfl (by kernel_rfl) (fr_indexAddrF (Reads.old hvs) (eI_len .i64) rfl rfl rfl rfl rfl rfl (by omega)) ((List.Sublist.refl _)) rfl rfl rfl ?_
        refine ExD.take (i := 10) rfl (by kernel_rfl) (fr_load rfl rfl rfl rfl (by first | exact cellN (Reads.old hvs) (eI_len .i64) 0 0 rfl (by omega) rfl | exact cellF (Reads.old hvs) (eI_len .i64) 0 0 rfl (by omega) rfl)) ((List.Sublist.refl _)) rfl rfl rfl ?_
        refine ExD.op (i := 11) rfl (by kernel_rfl) rfl (op_ret rfl rfl rfl (c_l00HasP (x1.K.getD k zX).xs _ _ (by omega) (vs.getD k 0)) (Reads.get (readsX (i := 2) rfl (k := k) (by omega))) rfl rfl (fun x5 hx5 => ⟨(List.Sublist.refl _), ?_⟩))
        refine ExD.take (i := 12) rfl (by kernel_rfl) (pureVal_ok rfl) ((List.Sublist.refl _)) rfl rfl rfl ?_
        refine ExD.take (i := 13) rfl (by kernel_rfl) (pureVal_ok rfl) ((List.Sublist.refl _)) rfl rfl rfl ?_
        refine ExD.bool (d := 50) rfl (fun hb6 => ?_) (fun hb6 => ?_)
        · replace hb6 := nb_t hb6
          refine ExD.pass (i := 14) rfl (by kernel_rfl) ((List.Sublist.refl _)) rfl rfl rfl ?_
          refine ExD.pass (i := 15) rfl (by kernel_rfl) ((List.Sublist.refl _)) rfl rfl rfl ?_
          refine ExD.pass (i := 16) rfl (by kernel_rfl) ((List.Sublist.refl _)) rfl rfl rfl ?_
          refine ExD.pass (i := 17) rfl (by kernel_rfl) ((List.Sublist.refl _)) rfl rfl rfl ?_
          refine ExD.pass (i := 18) rfl (by kernel_rfl) ((List.Sublist.refl _)) rfl rfl rfl ?_
          refine ExD.pass (i := 19) rfl (by kernel_rfl) ((List.Sublist.refl _)) rfl rfl rfl ?_
          refine ExD.pass (i := 20) rfl (by kernel_rfl) ((List.Sublist.refl _)) rfl rfl rfl ?_
          refine ExD.pass (i := 21) rfl (by kernel_rfl) ((List.Sublist.refl _)) rfl rfl rfl ?_
          refine ExD.pass (i := 22) rfl (by kernel_rfl) ((List.Sublist.refl _)) rfl rfl rfl ?_
          refine ExD.pass (i := 23) rfl (by kernel_rfl) ((List.Sublist.refl _)) rfl rfl rfl ?_
          refine ExD.pass (i := 24) rfl (by kernel_rfl) ((List.Sublist.refl _)) rfl rfl rfl ?_
          refine ExD.pass (i := 25) rfl (by kernel_rfl) ((List.Sublist.refl _)) rfl rfl rfl ?_
          refine ExD.pass (i := 26) rfl (by kernel_rfl) ((List.Sublist.refl _)) rfl rfl rfl ?_
          refine ExD.pass (i := 27) rfl (by kernel_rfl) ((List.Sublist.refl _)) rfl rfl rfl ?_
          refine ExD.pass (i := 28) rfl (by kernel_rfl) ((List.Sublist.refl _)) rfl rfl rfl ?_
          refine ExD.pass (i := 29) rfl (by kernel_rfl) ((List.Sublist.refl _)) rfl rfl rfl ?_
          refine ExD.take (i := 30) rfl (by kernel_rfl) (pureVal_ok rfl) ((List.Sublist.refl _)) rfl rfl rfl ?_
          refine ExD.done (by kernel_rfl) ?_
          refine Ex.cond_t rfl ?_
          refine Ex.regSeq (ExL.pures 2 rfl ?_)
          refine ExL.nil ?_
          refine Ex.ret ?_
          refine RetQ.mk () rfl (.tmp rfl (.tmp rfl .nil)) (t2 (vB (by first | (rw [ck_l hc0 (by omega)]; first | done | rfl) | (rw [ckn (k := k) hx1 hc0 (by omega) (wo_f1 (by assumption))]; first | done | rfl) | (rw [ckn (k := k) hx1 hc0 (by omega) (wo_f2 (by omega) (by assumption))]; first | done | rfl) | (rw [cky (k := k) hx1 hc0 (by omega) (by omega) hall]; first | done | rfl))) (vI (by first | (rw [ck_l hc0 (by omega)]; first | done | rfl) | (rw [ckn (k := k) hx1 hc0 (by omega) (wo_f1 (by assumption))]; first | done | rfl) | (rw [ckn (k := k) hx1 hc0 (by omega) (wo_f2 (by omega) (by assumption))]; first | done | rfl) | (rw [cky (k := k) hx1 hc0 (by omega) (by omega) hall]; first | done | rfl)))) [] (rfl) rfl (trivial)
        · replace hb6 := nb_f hb6
          refine ExD.take (i := 14) rfl (by kernel_rfl) (pureVal_ok rfl) ((List.Sublist.refl _)) rfl rfl rfl ?_
          refine ExD.cmp_gtr (i := 15) rfl (by kernel_rfl) rfl rfl rfl ((List.Sublist.refl _)) rfl rfl rfl (fun h7 => ?_) (fun h7 => ?_)
          · refine ExD.take (i := 16) rfl (by kernel_rfl) (pureVal_ok rfl) ((List.Sublist.refl _)) rfl rfl rfl ?_
            refine ExD.take (i := 17) rfl (by kernel_rfl) (pureVal_ok rfl) ((List.Sublist.refl _)) rfl rfl rfl ?_
            refine ExD.take (i := 18) rfl (by kernel_rfl) (pureVal_ok rfl) ((List.Sublist.refl _)) rfl rfl rfl ?_
            refine ExD.take (i := 19) rfl (by kernel_rfl) (pureVal_ok rfl) ((List.Sublist.refl _)) rfl rfl rfl ?_
            refine ExD.take (i := 20) rfl (by kernel_rfl) (by first | exact fr_sub64 rfl rfl rfl (by omega) | exact fr_sub rfl rfl rfl) ((List.Sublist.refl _)) rfl rfl rfl ?_
            refine ExD.take (i := 21) rfl (by kernel_rfl) (fr_indexAddrF (Reads.old hvs) (eI_len .i64) rfl rfl rfl rfl rfl rfl (by omega)) ((List.Sublist.refl _)) rfl rfl rfl ?_
            refine ExD.take (i := 22) rfl (by kernel_rfl) (fr_load rfl rfl rfl rfl (cellJ (i := (↑k - 1)) ((k - 1)) (Reads.old hvs) (eI_len .i64) 0 0 rfl (by omega) (by omega) rfl)) ((List.Sublist.refl _)) rfl rfl rfl ?_
            refine ExD.take (i := 23) rfl (by kernel_rfl) (pureVal_ok rfl) ((List.Sublist.refl _)) rfl rfl rfl ?_
            refine ExD.take (i := 24) rfl (by kernel_rfl) (pureVal_ok rfl) ((List.Sublist.refl _)) rfl rfl rfl ?_
            refine ExD.take (i := 25) rfl (by kernel_rfl) (fr_indexAddrF (Reads.old hvs) (eI_len .i64) rfl rfl rfl rfl rfl rfl (by omega)) ((List.Sublist.refl _)) rfl rfl rfl ?_
            refine ExD.take (i := 26) rfl (by kernel_rfl) (fr_load rfl rfl rfl rfl (by first | exact cellN (Reads.old hvs) (eI_len .i64) 0 0 rfl (by omega) rfl | exact cellF (Reads.old hvs) (eI_len .i64) 0 0 rfl (by omega) rfl)) ((List.Sublist.refl _)) rfl rfl rfl ?_
            refine ExD.op (i := 27) rfl (by kernel_rfl) rfl (op_ret rfl rfl rfl (c_follows _ _ lo hi (by omega) _ _ _ (by have := hpv (by omega); omega) (by have := has_bd hfk (show k < L.length by omega) (by assumption); omega)) (Reads.get (Reads.blk (i := 0) rfl)) rfl rfl (fun x8 hx8 => ⟨(List.Sublist.refl _), ?_⟩))
            refine ExD.take (i := 28) rfl (by kernel_rfl) (pureVal_ok rfl) ((List.Sublist.refl _)) rfl rfl rfl ?_
            refine ExD.take (i := 29) rfl (by kernel_rfl) (pureVal_ok rfl) ((List.Sublist.refl _)) rfl rfl rfl ?_
            refine ExD.take (i := 30) rfl (by kernel_rfl) (pureVal_ok rfl) ((List.Sublist.refl _)) rfl rfl rfl ?_
            refine ExD.done (by kernel_rfl) ?_
            refine Ex.cond rfl (fun hb9 => ?_) (fun hb9 => ?_)
            · replace hb9 := nb_t hb9
              refine Ex.regSeq (ExL.pures 2 rfl ?_)
              refine ExL.nil ?_
              refine Ex.ret ?_
              refine RetQ.mk () rfl (.tmp rfl (.tmp rfl .nil)) (t2 (vB (by first | (rw [ck_l hc0 (by omega)]; first | done | rfl) | (rw [ckn (k := k) hx1 hc0 (by omega) (wo_f1 (by assumption))]; first | done | rfl) | (rw [ckn (k := k) hx1 hc0 (by omega) (wo_f2 (by omega) (by assumption))]; first | done | rfl) | (rw [cky (k := k) hx1 hc0 (by omega) (by omega) hall]; first | done | rfl))) (vI (by first | (rw [ck_l hc0 (by omega)]; first | done | rfl) | (rw [ckn (k := k) hx1 hc0 (by omega) (wo_f1 (by assumption))]; first | done | rfl) | (rw [ckn (k := k) hx1 hc0 (by omega) (wo_f2 (by omega) (by assumption))]; first | done | rfl) | (rw [cky (k := k) hx1 hc0 (by omega) (by omega) hall]; first | done | rfl)))) [] (rfl) rfl (trivial)
            · replace hb9 := nb_f hb9
              refine Ex.skip ?_
              refine Ex.region (ExL.pures 1 rfl ?_)
              refine ExL.free (by first | exact fr_add64 rfl rfl rfl (by omega) | exact fr_add rfl rfl rfl) rfl rfl rfl ?_
              refine ExL.pures 1 rfl ?_
              refine ExL.nil ?_
              refine Hand.mk (k + 1) 3 [0, 1, 2] ⟨rfl, trivial⟩ ⟨rfl, rfl, trivial⟩ (rfl) rfl (⟨by omega, all_snoc hall (wo_t (by assumption) (by first | exact .inl (by omega) | exact .inr (by assumption)))⟩) (by omega)
          · refine ExD.take (i := 16) rfl (by kernel_rfl) (pureVal_ok rfl) ((List.Sublist.refl _)) rfl rfl rfl ?_
            refine ExD.pass (i := 17) rfl (by kernel_rfl) ((List.Sublist.refl _)) rfl rfl rfl ?_
            refine ExD.pass (i := 18) rfl (by kernel_rfl) ((List.Sublist.refl _)) rfl rfl rfl ?_
            refine ExD.pass (i := 19) rfl (by kernel_rfl) ((List.Sublist.refl _)) rfl rfl rfl ?_
            refine ExD.pass (i := 20) rfl (by kernel_rfl) ((List.Sublist.refl _)) rfl rfl rfl ?_
            refine ExD.pass (i := 21) rfl (by kernel_rfl) ((List.Sublist.refl _)) rfl rfl rfl ?_
            refine ExD.pass (i := 22) rfl (by kernel_rfl) ((List.Sublist.refl _)) rfl rfl rfl ?_
            refine ExD.pass (i := 23) rfl (by kernel_rfl) ((List.Sublist.refl _)) rfl rfl rfl ?_
            refine ExD.pass (i := 24) rfl (by kernel_rfl) ((List.Sublist.refl _)) rfl rfl rfl ?_
            refine ExD.pass (i := 25) rfl (by kernel_rfl) ((List.Sublist.refl _)) rfl rfl rfl ?_
            refine ExD.pass (i := 26) rfl (by kernel_rfl) ((List.Sublist.refl _)) rfl rfl rfl ?_
            refine ExD.pass (i := 27) rfl (by kernel_rfl) ((List.Sublist.refl _)) rfl rfl rfl ?_
            refine ExD.pass (i := 28) rfl (by kernel_rfl) ((List.Sublist.refl _)) rfl rfl rfl ?_
            refine ExD.take (i := 29) rfl (by kernel_rfl) (pureVal_ok rfl) ((List.Sublist.refl _)) rfl rfl rfl ?_
            refine ExD.take (i := 30) rfl (by kernel_rfl) (pureVal_ok rfl) ((List.Sublist.refl _)) rfl rfl rfl ?_
            refine ExD.done (by kernel_rfl) ?_
            refine Ex.cond_f rfl ?_
            refine Ex.skip ?_
            refine Ex.region (ExL.pures 1 rfl ?_)
            refine ExL.free (by first | exact fr_add64 rfl rfl rfl (by omega) | exact fr_add rfl rfl rfl) rfl rfl rfl ?_
            refine ExL.pures 1 rfl ?_
            refine ExL.nil ?_
            refine Hand.mk (k + 1) 3 [0, 1, 2] ⟨rfl, trivial⟩ ⟨rfl, rfl, trivial⟩ (rfl) rfl (⟨by omega, all_snoc hall (wo_t (by assumption) (by first | exact .inl (by omega) | exact .inr (by assumption)))⟩) (by omega)
      · refine ExL.nil ?_
        refine Ex.cond_f rfl ?_
        refine Ex.exit ?_
        refine Ex.regSeq (ExL.pures 2 rfl ?_)
        refine ExL.nil ?_
        refine Ex.ret ?_
        refine RetQ.mk () rfl (.tmp rfl (.tmp rfl .nil)) (t2 (vB (by first | (rw [ck_l hc0 (by omega)]; first | done | rfl) | (rw [ckn (k := k) hx1 hc0 (by omega) (wo_f1 (by assumption))]; first | done | rfl) | (rw [ckn (k := k) hx1 hc0 (by omega) (wo_f2 (by omega) (by assumption))]; first | done | rfl) | (rw [cky (k := k) hx1 hc0 (by omega) (by omega) hall]; first | done | rfl))) (vI (by first | (rw [ck_l hc0 (by omega)]; first | done | rfl) | (rw [ckn (k := k) hx1 hc0 (by omega) (wo_f1 (by assumption))]; first | done | rfl) | (rw [ckn (k := k) hx1 hc0 (by omega) (wo_f2 (by omega) (by assumption))]; first | done | rfl) | (rw [cky (k := k) hx1 hc0 (by omega) (by omega) hall]; first | done | rfl)))) [] (rfl) rfl (trivial)
theorem c_sCheck (s : List Int) (hu : Nums 255 s) (As : Option Addr) (cs : Nat) (hls : s.length ≤ maxLen) (L : List VPh) (hLk : ∀ k, k < L.length → OkPh (L.getD k zPh)) (bl cL : Nat) (hlL : L.length ≤ maxLen) (lo hi : Int) (vs : List Int) (Avs : Option Addr) (cvs : Nat) (hlv : vs.length ≤ maxLen) : Ret Try.prog 34 [.slice As s.length cs, .slice (some ⟨bl, 0, none⟩) L.length cL, .slice Avs vs.length cvs, .int .i64 lo, .int .i64 hi] (fun w => Rd w As (s.flatMap (eI .u8)) ∧ Rd w (some ⟨bl, 0, none⟩) (L.flatMap encPh) ∧ Rd w Avs (vs.flatMap (eI .i64))) (fun x : Unit => .tuple #[.bool (checkV s L vs lo hi).1, .int .i64 (checkV s L vs lo hi).2]) (fun x => []) (fun x => True) := by
  by_cases h : codeF s L lo hi lo = 0
  · exact c_sCheck_t s hu As cs hls L hLk bl cL hlL lo hi vs Avs cvs hlv h
  · exact c_sCheck_f s hu As cs hls L hLk bl cL hlL lo hi vs Avs cvs hlv h
end Go.Proofs.Ytplljnddhkleaaa
