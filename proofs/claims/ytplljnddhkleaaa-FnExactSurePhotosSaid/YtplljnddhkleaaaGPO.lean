/- What these functions of the program hand back, each proved by walking its operations. -/
import Derived.Test.YtplljnddhkleaaaProg
import Derived.Test.YtplljnddhkleaaaFw
import Derived.Test.YtplljnddhkleaaaM46
import Derived.Test.YtplljnddhkleaaaGPN
set_option linter.unusedVariables false
set_option linter.unusedSimpArgs false
set_option maxRecDepth 4000
namespace Go.Proofs.Ytplljnddhkleaaa
open Go Go.Sx Go.RowKit Go.W Go.Proofs
attribute [local irreducible] Ex ExL ExD Op1 Free RetQ MutQ Reads CellO SegO LoadsAs
theorem e_40 : Enters Try.prog 40 := Enters.of Try.func40 rfl
theorem c_iLik_f (s : List Int) (hu : Nums 255 s) (As : Option Addr) (cs : Nat) (hls : s.length ≤ maxLen) (L : List VPh) (hLk : ∀ k, k < L.length → OkPh (L.getD k zPh)) (bl cL : Nat) (hlL : L.length ≤ maxLen) (lo hi : Int) (us : Int) (hc0 : codeF s L lo hi us ≠ 0) : Ret Try.prog 40 [.slice As s.length cs, .slice (some ⟨bl, 0, none⟩) L.length cL, .int .i64 lo, .int .i64 hi, .int .i64 us] (fun w => Rd w As (s.flatMap (eI .u8)) ∧ Rd w (some ⟨bl, 0, none⟩) (L.flatMap encPh)) (fun x : Option Addr × Nat => .tuple #[.slice x.1 (likV s L lo hi us).1.length x.2, .int .i64 (likV s L lo hi us).2.1, .int .i64 (likV s L lo hi us).2.2]) (fun x => [.row (.slice x.1 (likV s L lo hi us).1.length x.2) 2 1 (likV s L lo hi us).1.length ((likV s L lo hi us).1.flatMap (eI .i64))]) (fun x => True) := by
  refine Ret.of e_40 Try.func40 rfl Try.ntmps40 rfl rfl (fun w hpre => ?_)
  have hs := hpre.1.base
  have hLr := hpre.2.base
  have hm0 : maxLen = 9223372036854775807 := rfl
  refine Ex.regSeq (ExL.pures 3 rfl ?_)
  refine ExL.nil ?_
  refine Ex.regSeq (ExL.pures 5 rfl ?_)
  refine ExL.op rfl (op_ret rfl rfl rfl (c_filmOf_f s (by assumption) _ _ (by omega) L (by assumption) _ _ (by omega) lo hi us hc0) (fun w hw => ⟨Reads.get (Reads.old hs) w hw, Reads.get (Reads.old hLr) w hw⟩) rfl rfl (fun x1 hx1 => ?_))
  refine ExL.pures 5 rfl ?_
  refine ExL.nil ?_
  refine Ex.seq ?_
  refine Ex.regSeq (ExL.pures 1 rfl ?_)
  refine ExL.neq rfl rfl rfl rfl rfl rfl (fun h2 => ?_) (fun h2 => ?_)
  · refine ExL.nil ?_
    refine Ex.cond_t rfl ?_
    refine Ex.regSeq (ExL.pures 4 rfl ?_)
    refine ExL.nil ?_
    refine Ex.nilRow 2 1 ?_
    refine Ex.ret ?_
    refine RetQ.mk (none, 0) rfl (.tmp rfl (.tmp rfl (.tmp rfl .nil))) (t3 (by first | (rw [hll, hlk]; first | done | rfl) | (rw [hlk]; first | done | rfl) | (rw [hll]; first | done | rfl) | (rw [lk_c hcn, hcu]; first | done | rfl) | (rw [lk_c hc0]; first | done | rfl) | (rw [lk_6 hc1 hx1 (by omega) hJl hR (by omega)]; first | done | rfl)) (by first | (rw [hll, hlk]; first | done | rfl) | (rw [hlk]; first | done | rfl) | (rw [hll]; first | done | rfl) | (rw [lk_c hcn, hcu]; first | done | rfl) | (rw [lk_c hc0]; first | done | rfl) | (rw [lk_6 hc1 hx1 (by omega) hJl hR (by omega)]; first | done | rfl)) (by first | (rw [hll, hlk]; first | done | rfl) | (rw [hlk]; first | done | rfl) | (rw [hll]; first | done | rfl) | (rw [lk_c hcn, hcu]; first | done | rfl) | (rw [lk_c hc0]; first | done | rfl) | (rw [lk_6 hc1 hx1 (by omega) hJl hR (by omega)]; first | done | rfl))) [0] (by first | (rw [hll, hlk]; first | done | rfl) | (rw [hlk]; first | done | rfl) | (rw [hll]; first | done | rfl) | (rw [lk_c hcn, hcu]; first | done | rfl) | (rw [lk_c hc0]; first | done | rfl) | (rw [lk_6 hc1 hx1 (by omega) hJl hR (by omega)]; first | done | rfl)) rfl (trivial)
  · refine ExL.nil ?_
    refine Ex.cond_f rfl ?_
    refine Ex.skip ?_
    exfalso; omega
theorem c_iLik_t (s : List Int) (hu : Nums 255 s) (As : Option Addr) (cs : Nat) (hls : s.length ≤ maxLen) (L : List VPh) (hLk : ∀ k, k < L.length → OkPh (L.getD k zPh)) (bl cL : Nat) (hlL : L.length ≤ maxLen) (lo hi : Int) (us : Int) (hc0 : codeF s L lo hi us = 0) : Ret Try.prog 40 [.slice As s.length cs, .slice (some ⟨bl, 0, none⟩) L.length cL, .int .i64 lo, .int .i64 hi, .int .i64 us] (fun w => Rd w As (s.flatMap (eI .u8)) ∧ Rd w (some ⟨bl, 0, none⟩) (L.flatMap encPh)) (fun x : Option Addr × Nat => .tuple #[.slice x.1 (likV s L lo hi us).1.length x.2, .int .i64 (likV s L lo hi us).2.1, .int .i64 (likV s L lo hi us).2.2]) (fun x => [.row (.slice x.1 (likV s L lo hi us).1.length x.2) 2 1 (likV s L lo hi us).1.length ((likV s L lo hi us).1.flatMap (eI .i64))]) (fun x => True) := by
  refine Ret.of e_40 Try.func40 rfl Try.ntmps40 rfl rfl (fun w hpre => ?_)
  have hs := hpre.1.base
  have hLr := hpre.2.base
  have hm0 : maxLen = 9223372036854775807 := rfl
  have hLo : ∀ p ∈ L, OkPh p := fun p hp => by obtain ⟨i, hi, rfl⟩ := List.getElem_of_mem hp; have := hLk i hi; simpa [List.getD, hi] using this
  have hF := film hLo hc0
  have hl0 := hF.l0
  have hlh := hF.le
  have hh1 := hF.h1
  have hS := hF.st
  have hv := hF.vs
  have hn1 := hF.len
  refine Ex.regSeq (ExL.pures 3 rfl ?_)
  refine ExL.nil ?_
  refine Ex.regSeq (ExL.pures 5 rfl ?_)
  refine ExL.op rfl (op_ret rfl rfl rfl (c_filmOf_t s (by assumption) _ _ (by omega) L (by assumption) _ _ (by omega) lo hi us hc0) (fun w hw => ⟨Reads.get (Reads.old hs) w hw, Reads.get (Reads.old hLr) w hw⟩) rfl rfl (fun x1 hx1 => ?_))
  have hfk := fk hF hx1
  have hkl := hfk.len
  have hfv := hfk.v
  have hfl := hfk.vl
  refine ExL.pures 5 rfl ?_
  refine ExL.nil ?_
  refine Ex.seq ?_
  obtain ⟨_, _, hrg, _⟩ := cf_of hc0
  have hus : 0 ≤ us ∧ us ≤ 1000000000000 := by omega
  have hc1 := hc0
  refine Ex.regSeq (ExL.pures 1 rfl ?_)
  refine ExL.neq rfl rfl rfl rfl rfl rfl (fun h2 => ?_) (fun h2 => ?_)
  · refine ExL.nil ?_
    refine Ex.cond_t rfl ?_
    exfalso; omega
  · refine ExL.nil ?_
    refine Ex.cond_f rfl ?_
    refine Ex.skip ?_
    refine Ex.regSeq (ExL.pures 2 rfl ?_)
    refine ExL.op rfl (op_ret rfl rfl rfl (c_sums x1.K L.length hfk lo hi (by omega) x1.A x1.c _ us (by omega)) (fun w hw => ⟨Reads.get (Reads.blk (i := 0) rfl) w hw, Reads.get (Reads.row (i := 1) rfl) w hw, fun k hk => Reads.get (readsX (i := 2) rfl hk) w hw⟩) rfl rfl (fun x3 hx3 => ?_))
    obtain ⟨hJl, hR⟩ := hx3
    have hjl : ∀ k, k < L.length → (x3.2.getD (x1.K.length - 1 - k) zX).xs.length = (x1.K.getD k zX).xs.length := fun k hk => by rw [hR _ (by omega), cost_ln (by omega)]; show (x1.K.getD (x1.K.length - 1 - (x1.K.length - 1 - k)) zX).xs.length = _; rw [show x1.K.length - 1 - (x1.K.length - 1 - k) = k by omega]
    have hjl0 := hjl 0 (by omega)
    have hvl0 := hfl 0 (by omega)
    have hFa := fk_all hfk
    have hco := fun k (hk : k < x3.2.length) (q : Nat) => co_bd (F := fun k => (x1.K.getD k zX).xs) (lo := lo) (hi := hi) (us := us) (n := x1.K.length) hFa hus hR (by omega) hk q
    have hbd0 := fun i => bk_bd (x3.2.getD (x1.K.length - 1 - 0) zX).xs i
    refine ExL.pures 2 rfl ?_
    refine ExL.nil ?_
    refine Ex.seq ?_
    refine Ex.regSeq (ExL.pures 1 rfl ?_)
    refine ExL.free (fr_indexAddr (sz := 1) rfl rfl rfl rfl rfl rfl (by omega)) rfl rfl rfl ?_
    refine ExL.free (fr_load rfl rfl rfl rfl (cellE (r := (x3.2.getD (x1.K.length - 1 - 0) zX)) (i := 0) (0) (Reads.row (i := 0) rfl) encX_len zX 0 rfl (by omega) (by rw [outE_len]; omega) (outE_at (by omega)) rfl)) rfl rfl rfl ?_
    refine ExL.pures 2 rfl ?_
    refine ExL.nil ?_
    refine Ex.block ?_
    refine Ex.loopK (X := Nat) (fun i => [(16, .int .i64 (bestK (x3.2.getD (x1.K.length - 1 - 0) zX).xs i)), (46, .int .i64 i)]) (fun i => []) (fun i => i ≤ (x1.K.getD 0 zX).xs.length) (fun i => (x1.K.getD 0 zX).xs.length - i) 0 [(4, _), (10, _), (11, _), (12, _), (13, _), (15, _), (44, _), (45, _)] [_, _, _, _, _] 5 [0, 1, 2, 3, 4] ⟨rfl, rfl, trivial⟩ ⟨rfl, rfl, rfl, rfl, rfl, rfl, rfl, rfl, trivial⟩ (rfl) rfl (Nat.zero_le _) (fun i hI => ?_)
    have hI : i ≤ (x1.K.getD 0 zX).xs.length := hI
    have hcoi := hco (x1.K.length - 1 - 0) (by omega) i
    have hbdi := hbd0 i
    have hbci := bk_bc (x3.2.getD (x1.K.length - 1 - 0) zX).xs i
    have hnni := bk_nn (x3.2.getD (x1.K.length - 1 - 0) zX).xs i
    refine Ex.regSeq (ExL.pures 0 rfl ?_)
    refine ExL.lss rfl rfl rfl rfl rfl rfl (fun h4 => ?_) (fun h4 => ?_)
    · refine ExL.nil ?_
      refine Ex.seq ?_
      refine Ex.cond_t rfl ?_
      refine Ex.skip ?_
      refine Ex.seq ?_
      refine Ex.block ?_
      refine Ex.regSeq (ExL.pures 1 rfl ?_)
      refine ExL.free (fr_indexAddrF (readsX (i := 1) rfl (k := (x1.K.length - 1 - 0)) (by omega)) (eI_len .i64) rfl rfl rfl rfl rfl rfl (by omega)) rfl rfl rfl ?_
      refine ExL.free (fr_load rfl rfl rfl rfl (by first | exact cellN (readsX (i := 1) rfl (k := (x1.K.length - 1 - 0)) (by omega)) (eI_len .i64) 0 0 rfl (by omega) rfl | exact cellF (readsX (i := 1) rfl (k := (x1.K.length - 1 - 0)) (by omega)) (eI_len .i64) 0 0 rfl (by omega) rfl)) rfl rfl rfl ?_
      refine ExL.pures 2 rfl ?_
      refine ExL.nil ?_
      refine Ex.regSeq (ExL.pures 1 rfl ?_)
      refine ExL.geq rfl rfl rfl rfl rfl rfl (fun h5 => ?_) (fun h5 => ?_)
      · refine ExL.pures 2 rfl ?_
        refine ExL.lss rfl rfl rfl rfl rfl rfl (fun h6 => ?_) (fun h6 => ?_)
        · refine ExL.pures 11 rfl ?_
          refine ExL.nil ?_
          refine Ex.cond_t rfl ?_
          refine Ex.region (ExL.pures 2 rfl ?_)
          refine ExL.nil ?_
          refine Ex.region (ExL.pures 0 rfl ?_)
          refine ExL.free (by first | exact fr_add64 rfl rfl rfl (by omega) | exact fr_add rfl rfl rfl) rfl rfl rfl ?_
          refine ExL.pures 1 rfl ?_
          refine ExL.nil ?_
          refine Hand.mk (i + 1) 5 [0, 1, 2, 3, 4] ⟨agI (by first | rw [bk_y (c := (x3.2.getD (x1.K.length - 1 - 0) zX).xs) (i := i) (by omega) (by omega)] | rw [bk_n (c := (x3.2.getD (x1.K.length - 1 - 0) zX).xs) (i := i) (by omega)]), rfl, trivial⟩ ⟨rfl, rfl, rfl, rfl, rfl, rfl, rfl, rfl, trivial⟩ (rfl) rfl (by omega) (by omega)
        · refine ExL.pures 3 rfl ?_
          refine ExL.free (fr_indexAddr (sz := 1) rfl rfl rfl rfl rfl rfl (by omega)) rfl rfl rfl ?_
          refine ExL.free (fr_load rfl rfl rfl rfl (cellE (r := (x3.2.getD (x1.K.length - 1 - 0) zX)) (i := 0) (0) (Reads.row (i := 0) rfl) encX_len zX 0 rfl (by omega) (by rw [outE_len]; omega) (outE_at (by omega)) rfl)) rfl rfl rfl ?_
          refine ExL.pures 1 rfl ?_
          refine ExL.free (fr_indexAddrF (readsX (i := 1) rfl (k := (x1.K.length - 1 - 0)) (by omega)) (eI_len .i64) rfl rfl rfl rfl rfl rfl (by omega)) rfl rfl rfl ?_
          refine ExL.free (fr_load rfl rfl rfl rfl (cellF (readsX (i := 1) rfl (k := (x1.K.length - 1 - 0)) (by omega)) (eI_len .i64) 0 0 rfl (by omega) rfl)) rfl rfl rfl ?_
          refine ExL.lss rfl rfl rfl rfl rfl rfl (fun h7 => ?_) (fun h7 => ?_)
          · refine ExL.pures 2 rfl ?_
            refine ExL.nil ?_
            refine Ex.cond_t rfl ?_
            refine Ex.region (ExL.pures 2 rfl ?_)
            refine ExL.nil ?_
            refine Ex.region (ExL.pures 0 rfl ?_)
            refine ExL.free (by first | exact fr_add64 rfl rfl rfl (by omega) | exact fr_add rfl rfl rfl) rfl rfl rfl ?_
            refine ExL.pures 1 rfl ?_
            refine ExL.nil ?_
            refine Hand.mk (i + 1) 5 [0, 1, 2, 3, 4] ⟨agI (by first | rw [bk_y (c := (x3.2.getD (x1.K.length - 1 - 0) zX).xs) (i := i) (by omega) (by omega)] | rw [bk_n (c := (x3.2.getD (x1.K.length - 1 - 0) zX).xs) (i := i) (by omega)]), rfl, trivial⟩ ⟨rfl, rfl, rfl, rfl, rfl, rfl, rfl, rfl, trivial⟩ (rfl) rfl (by omega) (by omega)
          · refine ExL.pures 2 rfl ?_
            refine ExL.nil ?_
            refine Ex.cond_f rfl ?_
            refine Ex.skip ?_
            refine Ex.region (ExL.pures 0 rfl ?_)
            refine ExL.free (by first | exact fr_add64 rfl rfl rfl (by omega) | exact fr_add rfl rfl rfl) rfl rfl rfl ?_
            refine ExL.pures 1 rfl ?_
            refine ExL.nil ?_
            refine Hand.mk (i + 1) 5 [0, 1, 2, 3, 4] ⟨agI (by first | rw [bk_y (c := (x3.2.getD (x1.K.length - 1 - 0) zX).xs) (i := i) (by omega) (by omega)] | rw [bk_n (c := (x3.2.getD (x1.K.length - 1 - 0) zX).xs) (i := i) (by omega)]), rfl, trivial⟩ ⟨rfl, rfl, rfl, rfl, rfl, rfl, rfl, rfl, trivial⟩ (rfl) rfl (by omega) (by omega)
      · refine ExL.pures 14 rfl ?_
        refine ExL.nil ?_
        refine Ex.cond_f rfl ?_
        refine Ex.skip ?_
        refine Ex.region (ExL.pures 0 rfl ?_)
        refine ExL.free (by first | exact fr_add64 rfl rfl rfl (by omega) | exact fr_add rfl rfl rfl) rfl rfl rfl ?_
        refine ExL.pures 1 rfl ?_
        refine ExL.nil ?_
        refine Hand.mk (i + 1) 5 [0, 1, 2, 3, 4] ⟨agI (by first | rw [bk_y (c := (x3.2.getD (x1.K.length - 1 - 0) zX).xs) (i := i) (by omega) (by omega)] | rw [bk_n (c := (x3.2.getD (x1.K.length - 1 - 0) zX).xs) (i := i) (by omega)]), rfl, trivial⟩ ⟨rfl, rfl, rfl, rfl, rfl, rfl, rfl, rfl, trivial⟩ (rfl) rfl (by omega) (by omega)
    · refine ExL.nil ?_
      refine Ex.seq ?_
      refine Ex.cond_f rfl ?_
      refine Ex.exit ?_
      obtain rfl : i = (x1.K.getD 0 zX).xs.length := (by omega)
      refine Ex.seq ?_
      refine Ex.regSeq (ExL.pures 1 rfl ?_)
      refine ExL.lss rfl rfl rfl rfl rfl rfl (fun h8 => ?_) (fun h8 => ?_)
      · refine ExL.nil ?_
        refine Ex.cond_t rfl ?_
        refine Ex.regSeq (ExL.pures 3 rfl ?_)
        refine ExL.nil ?_
        refine Ex.nilRow 2 1 ?_
        refine Ex.ret ?_
        refine RetQ.mk (none, 0) rfl (.tmp rfl (.tmp rfl (.tmp rfl .nil))) (t3 (by first | (rw [hll, hlk]; first | done | rfl) | (rw [hlk]; first | done | rfl) | (rw [hll]; first | done | rfl) | (rw [lk_c hcn, hcu]; first | done | rfl) | (rw [lk_c hc0]; first | done | rfl) | (rw [lk_6 hc1 hx1 (by omega) hJl hR (by omega)]; first | done | rfl)) (by first | (rw [hll, hlk]; first | done | rfl) | (rw [hlk]; first | done | rfl) | (rw [hll]; first | done | rfl) | (rw [lk_c hcn, hcu]; first | done | rfl) | (rw [lk_c hc0]; first | done | rfl) | (rw [lk_6 hc1 hx1 (by omega) hJl hR (by omega)]; first | done | rfl)) (by first | (rw [hll, hlk]; first | done | rfl) | (rw [hlk]; first | done | rfl) | (rw [hll]; first | done | rfl) | (rw [lk_c hcn, hcu]; first | done | rfl) | (rw [lk_c hc0]; first | done | rfl) | (rw [lk_6 hc1 hx1 (by omega) hJl hR (by omega)]; first | done | rfl))) [0] (by first | (rw [hll, hlk]; first | done | rfl) | (rw [hlk]; first | done | rfl) | (rw [hll]; first | done | rfl) | (rw [lk_c hcn, hcu]; first | done | rfl) | (rw [lk_c hc0]; first | done | rfl) | (rw [lk_6 hc1 hx1 (by omega) hJl hR (by omega)]; first | done | rfl)) rfl (trivial)
      · refine ExL.nil ?_
        refine Ex.cond_f rfl ?_
        refine Ex.skip ?_
        have hbe : bestC (x3.2.getD (x1.K.length - 1 - 0) zX).xs (x1.K.getD 0 zX).xs.length = (x3.2.getD (x1.K.length - 1 - 0) zX).xs.getD (bestK (x3.2.getD (x1.K.length - 1 - 0) zX).xs (x1.K.getD 0 zX).xs.length).toNat 0 := by omega
        have hpath := path_ok (lo := lo) (hi := hi) (us := us) (F := (fun k => (x1.K.getD k zX).xs)) (C := (fun k => (x3.2.getD (x1.K.length - 1 - k) zX).xs)) (n := x1.K.length) (show 0 ≤ bestK (x3.2.getD (x1.K.length - 1 - 0) zX).xs (x1.K.getD 0 zX).xs.length by omega) (cos_min hJl hR)
        refine Ex.drawSeqM rfl ?_
        refine ExD.take (i := 0) rfl (by kernel_rfl) (pureVal_ok rfl) ((List.Sublist.refl _)) rfl rfl rfl ?_
        refine ExD.take (i := 1) rfl (by kernel_rfl) (pureVal_ok rfl) ((List.Sublist.refl _)) rfl rfl rfl ?_
        refine ExD.take (i := 2) rfl (by kernel_rfl) (pureVal_ok rfl) ((List.Sublist.refl _)) rfl rfl rfl ?_
        refine ExD.take (i := 3) rfl (by kernel_rfl) (fr_load rfl rfl rfl rfl (CellO.blk (i := 2) rfl rfl)) ((List.Sublist.refl _)) rfl rfl rfl ?_
        refine ExD.take (i := 4) rfl (by kernel_rfl) (fr_indexAddrR (sz := 1) 3 rfl rfl rfl rfl rfl rfl (by omega)) ((List.Sublist.refl _)) rfl rfl rfl ?_
        refine ExD.take (i := 5) rfl (by kernel_rfl) (fr_load rfl rfl rfl rfl (cellJ (i := 0) (0) (Reads.row (i := 3) rfl) encX_len zX 0 rfl (by omega) (by omega) rfl)) ((List.Sublist.refl _)) rfl rfl rfl ?_
        refine ExD.take (i := 6) rfl (by kernel_rfl) (pureVal_ok rfl) ((List.Sublist.refl _)) rfl rfl rfl ?_
        refine ExD.take (i := 7) rfl (by kernel_rfl) (fr_indexAddrF (readsX (i := 4) rfl (k := 0) (by omega)) (eI_len .i64) rfl rfl rfl rfl rfl rfl (by omega)) ((List.Sublist.refl _)) rfl rfl rfl ?_
        refine ExD.take (i := 8) rfl (by kernel_rfl) (fr_load rfl rfl rfl rfl (cellF (readsX (i := 4) rfl (k := 0) (by omega)) (eI_len .i64) 0 0 rfl (by omega) rfl)) ((List.Sublist.refl _)) rfl rfl rfl ?_
        refine ExD.take (i := 10) rfl (by kernel_rfl) (pureVal_ok rfl) ((List.Sublist.refl _)) rfl rfl rfl ?_
        refine ExD.take (i := 11) rfl (by kernel_rfl) (fr_indexAddr (sz := 1) rfl rfl rfl rfl rfl rfl (by omega)) ((List.Sublist.refl _)) rfl rfl rfl ?_
        refine ExD.take (i := 12) rfl (by kernel_rfl) (fr_load rfl rfl rfl rfl (cellE (r := (x3.2.getD (x1.K.length - 1 - 0) zX)) (i := 0) (0) (Reads.row (i := 0) rfl) encX_len zX 0 rfl (by omega) (by rw [outE_len]; omega) (outE_at (by omega)) rfl)) ((List.Sublist.refl _)) rfl rfl rfl ?_
        refine ExD.take (i := 13) rfl (by kernel_rfl) (pureVal_ok rfl) ((List.Sublist.refl _)) rfl rfl rfl ?_
        refine ExD.take (i := 14) rfl (by kernel_rfl) (fr_indexAddrF (readsX (i := 1) rfl (k := (x1.K.length - 1 - 0)) (by omega)) (eI_len .i64) rfl rfl rfl rfl rfl rfl (by omega)) ((List.Sublist.refl _)) rfl rfl rfl ?_
        refine ExD.take (i := 15) rfl (by kernel_rfl) (fr_load rfl rfl rfl rfl (cellF (readsX (i := 1) rfl (k := (x1.K.length - 1 - 0)) (by omega)) (eI_len .i64) 0 0 rfl (by omega) rfl)) ((List.Sublist.refl _)) rfl rfl rfl ?_
        refine ExD.op (i := 9) rfl (by kernel_rfl) rfl (op_buildSlice (sz := 1) rfl rfl rfl rfl rfl rfl rfl rfl (by decide) rfl rfl rfl (fun r9 => ⟨(List.Sublist.cons _ (List.Sublist.refl _)), ?_⟩))
        refine ExD.take (i := 16) rfl (by kernel_rfl) (pureVal_ok rfl) ((List.Sublist.cons _ (List.Sublist.refl _))) rfl rfl rfl ?_
        refine ExD.take (i := 17) rfl (by kernel_rfl) (pureVal_ok rfl) ((List.Sublist.cons _ (List.Sublist.refl _))) rfl rfl rfl ?_
        refine ExD.done (by kernel_rfl) ?_
        rw [← hbe]
        refine Ex.regSeq (ExL.pures 2 rfl ?_)
        refine ExL.nil ?_
        refine Ex.seq ?_
        refine Ex.regSeq (ExL.pures 1 rfl ?_)
        refine ExL.nil ?_
        refine Ex.block ?_
        refine Ex.loopA (fun k A c => [(19, .slice A k c), (21, .int .i64 (leftQ lo hi us (fun k => (x1.K.getD k zX).xs) (fun k => (x3.2.getD (x1.K.length - 1 - k) zX).xs) k)), (22, .int .i64 k)]) (fun k A c => [.row (.slice A k c) 2 1 k ((outQ lo hi us (fun k => (x1.K.getD k zX).xs) (fun k => (x3.2.getD (x1.K.length - 1 - k) zX).xs) k).flatMap (eI .i64))]) (fun k => 1 ≤ k ∧ k ≤ x1.K.length) (fun k => x1.K.length - k) 1 ((some ⟨r9, 0, none⟩)) (1) [(4, _), (10, _), (11, _), (12, _), (13, _), (15, _), (20, _)] [_, _, _, _, _] 6 [0, 1, 2, 3, 4, 5] ⟨rfl, agI (by first | rfl | exact hbe | exact hbe.symm), rfl, trivial⟩ ⟨rfl, rfl, rfl, rfl, rfl, rfl, rfl, trivial⟩ (rfl) rfl ⟨Nat.le_refl _, by omega⟩ (fun k A c hI => ?_)
        have hI : 1 ≤ k ∧ k ≤ x1.K.length := hI
        obtain ⟨hk1, hk⟩ := hI
        refine Ex.seq ?_
        refine Ex.regSeq (ExL.pures 4 rfl ?_)
        refine ExL.free (fr_load rfl rfl rfl rfl (CellO.blk (i := 3) rfl rfl)) rfl rfl rfl ?_
        refine ExL.pures 1 rfl ?_
        refine ExL.lss rfl rfl rfl rfl rfl rfl (fun h10 => ?_) (fun h10 => ?_)
        · refine ExL.nil ?_
          refine Ex.cond_t rfl ?_
          refine Ex.skip ?_
          refine Ex.seq ?_
          refine Ex.block ?_
          have hkL : k < L.length := by omega
          have hvl := hfl k hkL
          have hjk := hjl k hkL
          have hpk := hpath k (by omega)
          have hvi := hFa (k - 1) (idxP lo hi us (fun k => (x1.K.getD k zX).xs) (fun k => (x3.2.getD (x1.K.length - 1 - k) zX).xs) (k - 1))
          refine Ex.regSeq (ExL.pures 2 rfl ?_)
          refine ExL.free (Free.val ((k - 1 : Nat) : Int) (fr_sub64 rfl rfl rfl (by omega)) (by omega)) rfl rfl rfl ?_
          refine ExL.free (fr_indexAddrR (sz := 1) 0 rfl rfl rfl rfl rfl rfl (by omega)) rfl rfl rfl ?_
          refine ExL.free (fr_load rfl rfl rfl rfl (cellW (v := .int .i64 ((x1.K.getD (k - 1) zX).xs.getD (idxP lo hi us (fun k => (x1.K.getD k zX).xs) (fun k => (x3.2.getD (x1.K.length - 1 - k) zX).xs) (k - 1)) 0)) (i := ↑(k - 1)) (k - 1) (Reads.row (i := 0) rfl) (eI_len .i64) 0 0 rfl (by omega) (by rw [outQ_len]; omega) (outQ_at (by omega)) rfl)) rfl rfl rfl ?_
          refine ExL.pures 1 rfl ?_
          refine ExL.nil ?_
          refine Ex.regSeq (ExL.pures 3 rfl ?_)
          refine ExL.free (fr_load rfl rfl rfl rfl (CellO.blk (i := 3) rfl rfl)) rfl rfl rfl ?_
          refine ExL.pures 1 rfl ?_
          refine ExL.free (fr_indexAddrR (sz := 1) 4 rfl rfl rfl rfl rfl rfl (by omega)) rfl rfl rfl ?_
          refine ExL.free (fr_load rfl rfl rfl rfl (by first | exact cellN (Reads.row (i := 4) rfl) encX_len zX 0 rfl (by omega) rfl | exact cellF (Reads.row (i := 4) rfl) encX_len zX 0 rfl (by omega) rfl)) rfl rfl rfl ?_
          refine ExL.pures 2 rfl ?_
          refine ExL.nil ?_
          refine Ex.block ?_
          refine Ex.loopK (X := Nat) (fun j => [(110, .int .i64 j), (19, .slice A k c), (21, .int .i64 (leftQ lo hi us (fun k => (x1.K.getD k zX).xs) (fun k => (x3.2.getD (x1.K.length - 1 - k) zX).xs) k))]) (fun j => []) (fun j => j ≤ (x1.K.getD k zX).xs.length ∧ ∀ i, i < j → okA lo hi us (fun k => (x1.K.getD k zX).xs) (fun k => (x3.2.getD (x1.K.length - 1 - k) zX).xs) (bestV (fun k => (x1.K.getD k zX).xs) (fun k => (x3.2.getD (x1.K.length - 1 - k) zX).xs)) k (idxP lo hi us (fun k => (x1.K.getD k zX).xs) (fun k => (x3.2.getD (x1.K.length - 1 - k) zX).xs) (k - 1)) i = false) (fun j => (x1.K.getD k zX).xs.length - j) 0 [(4, _), (10, _), (11, _), (12, _), (13, _), (15, _), (20, _), (22, _), (23, _), (108, _), (109, _)] [_, _, _, _, _, _] 6 [0, 1, 2, 3, 4, 5] ⟨rfl, rfl, rfl, trivial⟩ ⟨rfl, rfl, rfl, rfl, rfl, rfl, rfl, rfl, rfl, rfl, rfl, trivial⟩ (rfl) rfl ⟨Nat.zero_le _, fun i hi => by omega⟩ (fun j hI => ?_)
          have hI : j ≤ (x1.K.getD k zX).xs.length ∧ ∀ i, i < j → okA lo hi us (fun k => (x1.K.getD k zX).xs) (fun k => (x3.2.getD (x1.K.length - 1 - k) zX).xs) (bestV (fun k => (x1.K.getD k zX).xs) (fun k => (x3.2.getD (x1.K.length - 1 - k) zX).xs)) k (idxP lo hi us (fun k => (x1.K.getD k zX).xs) (fun k => (x3.2.getD (x1.K.length - 1 - k) zX).xs) (k - 1)) i = false := hI
          obtain ⟨hj, hall⟩ := hI
          refine Ex.regSeq (ExL.pures 0 rfl ?_)
          refine ExL.lss rfl rfl rfl rfl rfl rfl (fun h11 => ?_) (fun h11 => ?_)
          · refine ExL.nil ?_
            refine Ex.seq ?_
            refine Ex.cond_t rfl ?_
            refine Ex.skip ?_
            refine Ex.seq ?_
            refine Ex.block ?_
            have hjj : j < (x1.K.getD k zX).xs.length := by omega
            have hvj := hFa k j
            have hab := abs_bd hvi hvj hus
            have hcj := hco (x1.K.length - 1 - k) (by omega) j
            refine Ex.regSeq (ExL.pures 1 rfl ?_)
            refine ExL.free (fr_indexAddrF (readsX (i := 5) rfl (k := k) (by omega)) (eI_len .i64) rfl rfl rfl rfl rfl rfl (by omega)) rfl rfl rfl ?_
            refine ExL.free (fr_load rfl rfl rfl rfl (by first | exact cellN (readsX (i := 5) rfl (k := k) (by omega)) (eI_len .i64) 0 0 rfl (by omega) rfl | exact cellF (readsX (i := 5) rfl (k := k) (by omega)) (eI_len .i64) 0 0 rfl (by omega) rfl)) rfl rfl rfl ?_
            refine ExL.pures 2 rfl ?_
            refine ExL.nil ?_
            refine Ex.regSeq (ExL.pures 2 rfl ?_)
            refine ExL.free (fr_indexAddr (sz := 1) rfl rfl rfl rfl rfl rfl (by omega)) rfl rfl rfl ?_
            refine ExL.free (fr_load rfl rfl rfl rfl (cellE (r := (x3.2.getD (x1.K.length - 1 - k) zX)) (i := ↑k) (k) (Reads.row (i := 1) rfl) encX_len zX 0 rfl (by omega) (by rw [outE_len]; omega) (outE_at (by omega)) rfl)) rfl rfl rfl ?_
            refine ExL.pures 1 rfl ?_
            refine ExL.free (fr_indexAddrF (readsX (i := 2) rfl (k := (x1.K.length - 1 - k)) (by omega)) (eI_len .i64) rfl rfl rfl rfl rfl rfl (by omega)) rfl rfl rfl ?_
            refine ExL.free (fr_load rfl rfl rfl rfl (by first | exact cellN (readsX (i := 2) rfl (k := (x1.K.length - 1 - k)) (by omega)) (eI_len .i64) 0 0 rfl (by omega) rfl | exact cellF (readsX (i := 2) rfl (k := (x1.K.length - 1 - k)) (by omega)) (eI_len .i64) 0 0 rfl (by omega) rfl)) rfl rfl rfl ?_
            refine ExL.pures 1 rfl ?_
            refine ExL.nil ?_
            refine Ex.regSeq (ExL.pures 1 rfl ?_)
            refine ExL.geq rfl rfl rfl rfl rfl rfl (fun h12 => ?_) (fun h12 => ?_)
            · refine ExL.pures 4 rfl ?_
              refine ExL.op rfl (op_ret rfl rfl rfl (c_goes _ lo hi (by omega) _ ((x1.K.getD (k - 1) zX).xs.getD (idxP lo hi us (fun k => (x1.K.getD k zX).xs) (fun k => (x3.2.getD (x1.K.length - 1 - k) zX).xs) (k - 1)) 0) ((x1.K.getD k zX).xs.getD j 0) (by omega) (by omega)) (Reads.get (Reads.blk (i := 3) rfl)) rfl rfl (fun x13 hx13 => ?_))
              refine ExL.pures 2 rfl ?_
              refine ExL.bool (d := 130) rfl (fun hb14 => ?_) (fun hb14 => ?_)
              · refine ExL.pures 3 rfl ?_
                refine ExL.free (by first | exact fr_sub64 rfl rfl rfl (by omega) | exact fr_sub rfl rfl rfl) rfl rfl rfl ?_
                refine ExL.pures 1 rfl ?_
                refine ExL.free (by first | exact fr_sub64 rfl rfl rfl (by omega) | exact fr_sub rfl rfl rfl) rfl rfl rfl ?_
                refine ExL.op rfl (op_ret rfl rfl rfl (c_absW ((((x1.K.getD k zX).xs.getD j 0) - ((x1.K.getD (k - 1) zX).xs.getD (idxP lo hi us (fun k => (x1.K.getD k zX).xs) (fun k => (x3.2.getD (x1.K.length - 1 - k) zX).xs) (k - 1)) 0)) - us) (by omega)) (fun _ _ => trivial) rfl rfl (fun x15 hx15 => ?_))
                refine ExL.free (by first | exact fr_add64 rfl rfl rfl (by omega) | exact fr_add rfl rfl rfl) rfl rfl rfl ?_
                refine ExL.pures 1 rfl ?_
                refine ExL.eql rfl rfl rfl rfl rfl rfl (fun h16 => ?_) (fun h16 => ?_)
                · refine ExL.pures 1 rfl ?_
                  refine ExL.nil ?_
                  refine Ex.cond_t rfl ?_
                  refine Ex.regSeq (ExL.pures 2 rfl ?_)
                  refine ExL.op rfl (op_buildSlice (sz := 1) rfl rfl rfl rfl rfl rfl rfl rfl (by decide) rfl rfl rfl (fun r17 => ?_))
                  refine ExL.op rfl (op_append (sz := 1) (bytes := 8) (i := 1) rfl rfl rfl rfl (Reads.row (i := 0) rfl) rfl (fun e => nomatch e) rfl rfl rfl rfl (by constructor <;> first | omega | (unfold maxLen; omega)) rfl rfl (fun A18 cA18 => ?_))
                  refine ExL.pures 3 rfl ?_
                  refine ExL.nil ?_
                  refine Ex.exit ?_
                  have hix := idx_eq hpk hall (ok_y (lo := lo) (hi := hi) (us := us) (F := (fun k => (x1.K.getD k zX).xs)) (C := (fun k => (x3.2.getD (x1.K.length - 1 - k) zX).xs)) (k := k) (i := (idxP lo hi us (fun k => (x1.K.getD k zX).xs) (fun k => (x3.2.getD (x1.K.length - 1 - k) zX).xs) (k - 1))) (j := j) (by omega) (by omega) (by assumption) (by omega) rfl)
                  have hlq : (x3.2.getD (x1.K.length - 1 - k) zX).xs.getD j 0 = leftQ lo hi us (fun k => (x1.K.getD k zX).xs) (fun k => (x3.2.getD (x1.K.length - 1 - k) zX).xs) (k + 1) := by rw [leftQ, hix]
                  refine Ex.region (ExL.pures 1 rfl ?_)
                  refine ExL.free (by first | exact fr_add64 rfl rfl rfl (by omega) | exact fr_add rfl rfl rfl) rfl rfl rfl ?_
                  refine ExL.pures 1 rfl ?_
                  refine ExL.nil ?_
                  refine HandA.of (k + 1) (A18) (cA18) 7 [1, 2, 3, 4, 5, 6] ⟨rfl, agI hlq, rfl, trivial⟩ ⟨rfl, rfl, rfl, rfl, rfl, rfl, rfl, trivial⟩ (by rw [outQ_s hix, List.flatMap_append]; rfl) rfl (by omega) (by omega)
                · refine ExL.pures 1 rfl ?_
                  refine ExL.nil ?_
                  refine Ex.cond_f rfl ?_
                  refine Ex.skip ?_
                  refine Ex.region (ExL.pures 0 rfl ?_)
                  refine ExL.free (by first | exact fr_add64 rfl rfl rfl (by omega) | exact fr_add rfl rfl rfl) rfl rfl rfl ?_
                  refine ExL.pures 1 rfl ?_
                  refine ExL.nil ?_
                  refine Hand.mk (j + 1) 6 [0, 1, 2, 3, 4, 5] ⟨rfl, rfl, rfl, trivial⟩ ⟨rfl, rfl, rfl, rfl, rfl, rfl, rfl, rfl, rfl, rfl, rfl, trivial⟩ (rfl) rfl (⟨by omega, all_snoc hall (by first | exact ok_n1 (by omega) | exact ok_n2 (by omega) (by assumption) | exact ok_n3 (by omega) (by omega) rfl)⟩) (by omega)
              · refine ExL.pures 11 rfl ?_
                refine ExL.nil ?_
                refine Ex.cond_f rfl ?_
                refine Ex.skip ?_
                refine Ex.region (ExL.pures 0 rfl ?_)
                refine ExL.free (by first | exact fr_add64 rfl rfl rfl (by omega) | exact fr_add rfl rfl rfl) rfl rfl rfl ?_
                refine ExL.pures 1 rfl ?_
                refine ExL.nil ?_
                refine Hand.mk (j + 1) 6 [0, 1, 2, 3, 4, 5] ⟨rfl, rfl, rfl, trivial⟩ ⟨rfl, rfl, rfl, rfl, rfl, rfl, rfl, rfl, rfl, rfl, rfl, trivial⟩ (rfl) rfl (⟨by omega, all_snoc hall (by first | exact ok_n1 (by omega) | exact ok_n2 (by omega) (by assumption) | exact ok_n3 (by omega) (by omega) rfl)⟩) (by omega)
            · refine ExL.pures 18 rfl ?_
              refine ExL.nil ?_
              refine Ex.cond_f rfl ?_
              refine Ex.skip ?_
              refine Ex.region (ExL.pures 0 rfl ?_)
              refine ExL.free (by first | exact fr_add64 rfl rfl rfl (by omega) | exact fr_add rfl rfl rfl) rfl rfl rfl ?_
              refine ExL.pures 1 rfl ?_
              refine ExL.nil ?_
              refine Hand.mk (j + 1) 6 [0, 1, 2, 3, 4, 5] ⟨rfl, rfl, rfl, trivial⟩ ⟨rfl, rfl, rfl, rfl, rfl, rfl, rfl, rfl, rfl, rfl, rfl, trivial⟩ (rfl) rfl (⟨by omega, all_snoc hall (by first | exact ok_n1 (by omega) | exact ok_n2 (by omega) (by assumption) | exact ok_n3 (by omega) (by omega) rfl)⟩) (by omega)
          · refine ExL.nil ?_
            refine Ex.seq ?_
            refine Ex.cond_f rfl ?_
            refine Ex.exit ?_
            exfalso; exact idx_no hpk hall (by first | omega | exact hj9)
        · refine ExL.nil ?_
          refine Ex.cond_f rfl ?_
          refine Ex.exit ?_
          obtain rfl : k = x1.K.length := (by omega)
          have hlk := lk_0 (k := x1.K.length) hc1 hx1 (by omega) hJl hR (by omega) hkl
          have hll : (likV s L lo hi us).1.length = x1.K.length := by rw [hlk]; exact outQ_len _ _ _ _ _ _
          refine Ex.regSeq (ExL.pures 5 rfl ?_)
          refine ExL.nil ?_
          refine Ex.ret ?_
          refine RetQ.mk (A, c) rfl (.tmp rfl (.tmp rfl (.tmp rfl .nil))) (t3 (by first | (rw [hll, hlk]; first | done | rfl) | (rw [hlk]; first | done | rfl) | (rw [hll]; first | done | rfl) | (rw [lk_c hcn, hcu]; first | done | rfl) | (rw [lk_c hc0]; first | done | rfl) | (rw [lk_6 hc1 hx1 (by omega) hJl hR (by omega)]; first | done | rfl)) (by first | (rw [hll, hlk]; first | done | rfl) | (rw [hlk]; first | done | rfl) | (rw [hll]; first | done | rfl) | (rw [lk_c hcn, hcu]; first | done | rfl) | (rw [lk_c hc0]; first | done | rfl) | (rw [lk_6 hc1 hx1 (by omega) hJl hR (by omega)]; first | done | rfl)) (by first | (rw [hll, hlk]; first | done | rfl) | (rw [hlk]; first | done | rfl) | (rw [hll]; first | done | rfl) | (rw [lk_c hcn, hcu]; first | done | rfl) | (rw [lk_c hc0]; first | done | rfl) | (rw [lk_6 hc1 hx1 (by omega) hJl hR (by omega)]; first | done | rfl))) [0] (by first | (rw [hll, hlk]; first | done | rfl) | (rw [hlk]; first | done | rfl) | (rw [hll]; first | done | rfl) | (rw [lk_c hcn, hcu]; first | done | rfl) | (rw [lk_c hc0]; first | done | rfl) | (rw [lk_6 hc1 hx1 (by omega) hJl hR (by omega)]; first | done | rfl)) rfl (trivial)
theorem c_iLik (s : List Int) (hu : Nums 255 s) (As : Option Addr) (cs : Nat) (hls : s.length ≤ maxLen) (L : List VPh) (hLk : ∀ k, k < L.length → OkPh (L.getD k zPh)) (bl cL : Nat) (hlL : L.length ≤ maxLen) (lo hi : Int) (us : Int) : Ret Try.prog 40 [.slice As s.length cs, .slice (some ⟨bl, 0, none⟩) L.length cL, .int .i64 lo, .int .i64 hi, .int .i64 us] (fun w => Rd w As (s.flatMap (eI .u8)) ∧ Rd w (some ⟨bl, 0, none⟩) (L.flatMap encPh)) (fun x : Option Addr × Nat => .tuple #[.slice x.1 (likV s L lo hi us).1.length x.2, .int .i64 (likV s L lo hi us).2.1, .int .i64 (likV s L lo hi us).2.2]) (fun x => [.row (.slice x.1 (likV s L lo hi us).1.length x.2) 2 1 (likV s L lo hi us).1.length ((likV s L lo hi us).1.flatMap (eI .i64))]) (fun x => True) := by
  by_cases h : codeF s L lo hi us = 0
  · exact c_iLik_t s hu As cs hls L hLk bl cL hlL lo hi us h
  · exact c_iLik_f s hu As cs hls L hLk bl cL hlL lo hi us h
theorem e_39 : Enters Try.prog 39 := Enters.of Try.func39 rfl
theorem c_sLik_f (s : List Int) (hu : Nums 255 s) (As : Option Addr) (cs : Nat) (hls : s.length ≤ maxLen) (L : List VPh) (hLk : ∀ k, k < L.length → OkPh (L.getD k zPh)) (bl cL : Nat) (hlL : L.length ≤ maxLen) (lo hi : Int) (us : Int) (hc0 : codeF s L lo hi lo ≠ 0) : Ret Try.prog 39 [.slice As s.length cs, .slice (some ⟨bl, 0, none⟩) L.length cL, .int .i64 lo, .int .i64 hi, .int .i64 us] (fun w => Rd w As (s.flatMap (eI .u8)) ∧ Rd w (some ⟨bl, 0, none⟩) (L.flatMap encPh)) (fun x : Option Addr × Nat => .tuple #[.slice x.1 (likV s L lo hi us).1.length x.2, .int .i64 (likV s L lo hi us).2.1, .int .i64 (likV s L lo hi us).2.2]) (fun x => [.row (.slice x.1 (likV s L lo hi us).1.length x.2) 2 1 (likV s L lo hi us).1.length ((likV s L lo hi us).1.flatMap (eI .i64))]) (fun x => True) := by
  refine Ret.of e_39 Try.func39 rfl Try.ntmps39 rfl rfl (fun w hpre => ?_)
  have hs := hpre.1.base
  have hLr := hpre.2.base
  have hm0 : maxLen = 9223372036854775807 := rfl
  refine Ex.regSeq (ExL.pures 3 rfl ?_)
  refine ExL.nil ?_
  refine Ex.regSeq (ExL.pures 4 rfl ?_)
  refine ExL.op rfl (op_ret rfl rfl rfl (c_l05Begin_f s (by assumption) _ _ (by omega) L (by assumption) _ _ (by omega) lo hi hc0) (fun w hw => ⟨Reads.get (Reads.old hs) w hw, Reads.get (Reads.old hLr) w hw⟩) rfl rfl (fun x1 hx1 => ?_))
  refine ExL.pures 5 rfl ?_
  refine ExL.nil ?_
  refine Ex.seq ?_
  refine Ex.regSeq (ExL.pures 1 rfl ?_)
  refine ExL.eql rfl rfl rfl rfl rfl rfl (fun h2 => ?_) (fun h2 => ?_)
  · refine ExL.pures 8 rfl ?_
    refine ExL.op rfl (op_ret rfl rfl rfl (c_l00In _ _ _) (fun _ _ => trivial) rfl rfl (fun x3 hx3 => ?_))
    refine ExL.pures 2 rfl ?_
    refine ExL.nil ?_
    refine Ex.cond rfl (fun hb4 => ?_) (fun hb4 => ?_)
    · replace hb4 := nd_t hb4
      refine Ex.region (ExL.pures 1 rfl ?_)
      refine ExL.nil ?_
      refine Ex.seq ?_
      refine Ex.regSeq (ExL.pures 1 rfl ?_)
      refine ExL.neq rfl rfl rfl rfl rfl rfl (fun h5 => ?_) (fun h5 => ?_)
      · refine ExL.nil ?_
        refine Ex.cond_t rfl ?_
        have hcu : codeF s L lo hi us = 2 := cu_2 (by omega) (by omega)
        have hcn : codeF s L lo hi us ≠ 0 := by omega
        refine Ex.regSeq (ExL.pures 0 rfl ?_)
        refine ExL.op rfl (op_buildSlice (sz := 1) rfl rfl rfl rfl rfl rfl rfl rfl (by decide) rfl rfl rfl (fun r6 => ?_))
        refine ExL.pures 4 rfl ?_
        refine ExL.nil ?_
        refine Ex.ret ?_
        refine RetQ.mk ((some ⟨r6, 0, none⟩), 0) rfl (.tmp rfl (.tmp rfl (.tmp rfl .nil))) (t3 (by first | (rw [hll, hlk]; first | done | rfl) | (rw [hlk]; first | done | rfl) | (rw [hll]; first | done | rfl) | (rw [lk_c hcn, hcu]; first | done | rfl) | (rw [lk_c hc0]; first | done | rfl) | (rw [lk_6 hc1 hx1 (by omega) hJl hR (by omega)]; first | done | rfl)) (by first | (rw [hll, hlk]; first | done | rfl) | (rw [hlk]; first | done | rfl) | (rw [hll]; first | done | rfl) | (rw [lk_c hcn, hcu]; first | done | rfl) | (rw [lk_c hc0]; first | done | rfl) | (rw [lk_6 hc1 hx1 (by omega) hJl hR (by omega)]; first | done | rfl)) (by first | (rw [hll, hlk]; first | done | rfl) | (rw [hlk]; first | done | rfl) | (rw [hll]; first | done | rfl) | (rw [lk_c hcn, hcu]; first | done | rfl) | (rw [lk_c hc0]; first | done | rfl) | (rw [lk_6 hc1 hx1 (by omega) hJl hR (by omega)]; first | done | rfl))) [0] (by first | (rw [hll, hlk]; first | done | rfl) | (rw [hlk]; first | done | rfl) | (rw [hll]; first | done | rfl) | (rw [lk_c hcn, hcu]; first | done | rfl) | (rw [lk_c hc0]; first | done | rfl) | (rw [lk_6 hc1 hx1 (by omega) hJl hR (by omega)]; first | done | rfl)) rfl (trivial)
      · refine ExL.nil ?_
        refine Ex.cond_f rfl ?_
        refine Ex.skip ?_
        exfalso; omega
    · replace hb4 := nd_f hb4
      refine Ex.skip ?_
      refine Ex.seq ?_
      refine Ex.regSeq (ExL.pures 1 rfl ?_)
      refine ExL.neq rfl rfl rfl rfl rfl rfl (fun h7 => ?_) (fun h7 => ?_)
      · refine ExL.nil ?_
        refine Ex.cond_t rfl ?_
        have hcu : codeF s L lo hi us = codeF s L lo hi lo := cu_s (by omega)
        have hcn : codeF s L lo hi us ≠ 0 := by omega
        refine Ex.regSeq (ExL.pures 0 rfl ?_)
        refine ExL.op rfl (op_buildSlice (sz := 1) rfl rfl rfl rfl rfl rfl rfl rfl (by decide) rfl rfl rfl (fun r8 => ?_))
        refine ExL.pures 4 rfl ?_
        refine ExL.nil ?_
        refine Ex.ret ?_
        refine RetQ.mk ((some ⟨r8, 0, none⟩), 0) rfl (.tmp rfl (.tmp rfl (.tmp rfl .nil))) (t3 (by first | (rw [hll, hlk]; first | done | rfl) | (rw [hlk]; first | done | rfl) | (rw [hll]; first | done | rfl) | (rw [lk_c hcn, hcu]; first | done | rfl) | (rw [lk_c hc0]; first | done | rfl) | (rw [lk_6 hc1 hx1 (by omega) hJl hR (by omega)]; first | done | rfl)) (by first | (rw [hll, hlk]; first | done | rfl) | (rw [hlk]; first | done | rfl) | (rw [hll]; first | done | rfl) | (rw [lk_c hcn, hcu]; first | done | rfl) | (rw [lk_c hc0]; first | done | rfl) | (rw [lk_6 hc1 hx1 (by omega) hJl hR (by omega)]; first | done | rfl)) (by first | (rw [hll, hlk]; first | done | rfl) | (rw [hlk]; first | done | rfl) | (rw [hll]; first | done | rfl) | (rw [lk_c hcn, hcu]; first | done | rfl) | (rw [lk_c hc0]; first | done | rfl) | (rw [lk_6 hc1 hx1 (by omega) hJl hR (by omega)]; first | done | rfl))) [0] (by first | (rw [hll, hlk]; first | done | rfl) | (rw [hlk]; first | done | rfl) | (rw [hll]; first | done | rfl) | (rw [lk_c hcn, hcu]; first | done | rfl) | (rw [lk_c hc0]; first | done | rfl) | (rw [lk_6 hc1 hx1 (by omega) hJl hR (by omega)]; first | done | rfl)) rfl (trivial)
      · refine ExL.nil ?_
        refine Ex.cond_f rfl ?_
        refine Ex.skip ?_
        exfalso; omega
  · refine ExL.pures 2 rfl ?_
    refine ExL.eql rfl rfl rfl rfl rfl rfl (fun h9 => ?_) (fun h9 => ?_)
    · refine ExL.pures 5 rfl ?_
      refine ExL.op rfl (op_ret rfl rfl rfl (c_l00In _ _ _) (fun _ _ => trivial) rfl rfl (fun x10 hx10 => ?_))
      refine ExL.pures 2 rfl ?_
      refine ExL.nil ?_
      refine Ex.cond rfl (fun hb11 => ?_) (fun hb11 => ?_)
      · replace hb11 := nd_t hb11
        refine Ex.region (ExL.pures 1 rfl ?_)
        refine ExL.nil ?_
        refine Ex.seq ?_
        refine Ex.regSeq (ExL.pures 1 rfl ?_)
        refine ExL.neq rfl rfl rfl rfl rfl rfl (fun h12 => ?_) (fun h12 => ?_)
        · refine ExL.nil ?_
          refine Ex.cond_t rfl ?_
          have hcu : codeF s L lo hi us = 2 := cu_2 (by omega) (by omega)
          have hcn : codeF s L lo hi us ≠ 0 := by omega
          refine Ex.regSeq (ExL.pures 0 rfl ?_)
          refine ExL.op rfl (op_buildSlice (sz := 1) rfl rfl rfl rfl rfl rfl rfl rfl (by decide) rfl rfl rfl (fun r13 => ?_))
          refine ExL.pures 4 rfl ?_
          refine ExL.nil ?_
          refine Ex.ret ?_
          refine RetQ.mk ((some ⟨r13, 0, none⟩), 0) rfl (.tmp rfl (.tmp rfl (.tmp rfl .nil))) (t3 (by first | (rw [hll, hlk]; first | done | rfl) | (rw [hlk]; first | done | rfl) | (rw [hll]; first | done | rfl) | (rw [lk_c hcn, hcu]; first | done | rfl) | (rw [lk_c hc0]; first | done | rfl) | (rw [lk_6 hc1 hx1 (by omega) hJl hR (by omega)]; first | done | rfl)) (by first | (rw [hll, hlk]; first | done | rfl) | (rw [hlk]; first | done | rfl) | (rw [hll]; first | done | rfl) | (rw [lk_c hcn, hcu]; first | done | rfl) | (rw [lk_c hc0]; first | done | rfl) | (rw [lk_6 hc1 hx1 (by omega) hJl hR (by omega)]; first | done | rfl)) (by first | (rw [hll, hlk]; first | done | rfl) | (rw [hlk]; first | done | rfl) | (rw [hll]; first | done | rfl) | (rw [lk_c hcn, hcu]; first | done | rfl) | (rw [lk_c hc0]; first | done | rfl) | (rw [lk_6 hc1 hx1 (by omega) hJl hR (by omega)]; first | done | rfl))) [0] (by first | (rw [hll, hlk]; first | done | rfl) | (rw [hlk]; first | done | rfl) | (rw [hll]; first | done | rfl) | (rw [lk_c hcn, hcu]; first | done | rfl) | (rw [lk_c hc0]; first | done | rfl) | (rw [lk_6 hc1 hx1 (by omega) hJl hR (by omega)]; first | done | rfl)) rfl (trivial)
        · refine ExL.nil ?_
          refine Ex.cond_f rfl ?_
          refine Ex.skip ?_
          exfalso; omega
      · replace hb11 := nd_f hb11
        refine Ex.skip ?_
        refine Ex.seq ?_
        refine Ex.regSeq (ExL.pures 1 rfl ?_)
        refine ExL.neq rfl rfl rfl rfl rfl rfl (fun h14 => ?_) (fun h14 => ?_)
        · refine ExL.nil ?_
          refine Ex.cond_t rfl ?_
          have hcu : codeF s L lo hi us = codeF s L lo hi lo := cu_s (by omega)
          have hcn : codeF s L lo hi us ≠ 0 := by omega
          refine Ex.regSeq (ExL.pures 0 rfl ?_)
          refine ExL.op rfl (op_buildSlice (sz := 1) rfl rfl rfl rfl rfl rfl rfl rfl (by decide) rfl rfl rfl (fun r15 => ?_))
          refine ExL.pures 4 rfl ?_
          refine ExL.nil ?_
          refine Ex.ret ?_
          refine RetQ.mk ((some ⟨r15, 0, none⟩), 0) rfl (.tmp rfl (.tmp rfl (.tmp rfl .nil))) (t3 (by first | (rw [hll, hlk]; first | done | rfl) | (rw [hlk]; first | done | rfl) | (rw [hll]; first | done | rfl) | (rw [lk_c hcn, hcu]; first | done | rfl) | (rw [lk_c hc0]; first | done | rfl) | (rw [lk_6 hc1 hx1 (by omega) hJl hR (by omega)]; first | done | rfl)) (by first | (rw [hll, hlk]; first | done | rfl) | (rw [hlk]; first | done | rfl) | (rw [hll]; first | done | rfl) | (rw [lk_c hcn, hcu]; first | done | rfl) | (rw [lk_c hc0]; first | done | rfl) | (rw [lk_6 hc1 hx1 (by omega) hJl hR (by omega)]; first | done | rfl)) (by first | (rw [hll, hlk]; first | done | rfl) | (rw [hlk]; first | done | rfl) | (rw [hll]; first | done | rfl) | (rw [lk_c hcn, hcu]; first | done | rfl) | (rw [lk_c hc0]; first | done | rfl) | (rw [lk_6 hc1 hx1 (by omega) hJl hR (by omega)]; first | done | rfl))) [0] (by first | (rw [hll, hlk]; first | done | rfl) | (rw [hlk]; first | done | rfl) | (rw [hll]; first | done | rfl) | (rw [lk_c hcn, hcu]; first | done | rfl) | (rw [lk_c hc0]; first | done | rfl) | (rw [lk_6 hc1 hx1 (by omega) hJl hR (by omega)]; first | done | rfl)) rfl (trivial)
        · refine ExL.nil ?_
          refine Ex.cond_f rfl ?_
          refine Ex.skip ?_
          exfalso; omega
    · refine ExL.pures 8 rfl ?_
      refine ExL.nil ?_
      refine Ex.cond_f rfl ?_
      refine Ex.skip ?_
      refine Ex.seq ?_
      refine Ex.regSeq (ExL.pures 1 rfl ?_)
      refine ExL.neq rfl rfl rfl rfl rfl rfl (fun h16 => ?_) (fun h16 => ?_)
      · refine ExL.nil ?_
        refine Ex.cond_t rfl ?_
        have hcu : codeF s L lo hi us = codeF s L lo hi lo := cu_s (by omega)
        have hcn : codeF s L lo hi us ≠ 0 := by omega
        refine Ex.regSeq (ExL.pures 0 rfl ?_)
        refine ExL.op rfl (op_buildSlice (sz := 1) rfl rfl rfl rfl rfl rfl rfl rfl (by decide) rfl rfl rfl (fun r17 => ?_))
        refine ExL.pures 4 rfl ?_
        refine ExL.nil ?_
        refine Ex.ret ?_
        refine RetQ.mk ((some ⟨r17, 0, none⟩), 0) rfl (.tmp rfl (.tmp rfl (.tmp rfl .nil))) (t3 (by first | (rw [hll, hlk]; first | done | rfl) | (rw [hlk]; first | done | rfl) | (rw [hll]; first | done | rfl) | (rw [lk_c hcn, hcu]; first | done | rfl) | (rw [lk_c hc0]; first | done | rfl) | (rw [lk_6 hc1 hx1 (by omega) hJl hR (by omega)]; first | done | rfl)) (by first | (rw [hll, hlk]; first | done | rfl) | (rw [hlk]; first | done | rfl) | (rw [hll]; first | done | rfl) | (rw [lk_c hcn, hcu]; first | done | rfl) | (rw [lk_c hc0]; first | done | rfl) | (rw [lk_6 hc1 hx1 (by omega) hJl hR (by omega)]; first | done | rfl)) (by first | (rw [hll, hlk]; first | done | rfl) | (rw [hlk]; first | done | rfl) | (rw [hll]; first | done | rfl) | (rw [lk_c hcn, hcu]; first | done | rfl) | (rw [lk_c hc0]; first | done | rfl) | (rw [lk_6 hc1 hx1 (by omega) hJl hR (by omega)]; first | done | rfl))) [0] (by first | (rw [hll, hlk]; first | done | rfl) | (rw [hlk]; first | done | rfl) | (rw [hll]; first | done | rfl) | (rw [lk_c hcn, hcu]; first | done | rfl) | (rw [lk_c hc0]; first | done | rfl) | (rw [lk_6 hc1 hx1 (by omega) hJl hR (by omega)]; first | done | rfl)) rfl (trivial)
      · refine ExL.nil ?_
        refine Ex.cond_f rfl ?_
        refine Ex.skip ?_
        exfalso; omega
theorem c_sLik_t (s : List Int) (hu : Nums 255 s) (As : Option Addr) (cs : Nat) (hls : s.length ≤ maxLen) (L : List VPh) (hLk : ∀ k, k < L.length → OkPh (L.getD k zPh)) (bl cL : Nat) (hlL : L.length ≤ maxLen) (lo hi : Int) (us : Int) (hc0 : codeF s L lo hi lo = 0) : Ret Try.prog 39 [.slice As s.length cs, .slice (some ⟨bl, 0, none⟩) L.length cL, .int .i64 lo, .int .i64 hi, .int .i64 us] (fun w => Rd w As (s.flatMap (eI .u8)) ∧ Rd w (some ⟨bl, 0, none⟩) (L.flatMap encPh)) (fun x : Option Addr × Nat => .tuple #[.slice x.1 (likV s L lo hi us).1.length x.2, .int .i64 (likV s L lo hi us).2.1, .int .i64 (likV s L lo hi us).2.2]) (fun x => [.row (.slice x.1 (likV s L lo hi us).1.length x.2) 2 1 (likV s L lo hi us).1.length ((likV s L lo hi us).1.flatMap (eI .i64))]) (fun x => True) := by
  refine Ret.of e_39 Try.func39 rfl Try.ntmps39 rfl rfl (fun w hpre => ?_)
  have hs := hpre.1.base
  have hLr := hpre.2.base
  have hm0 : maxLen = 9223372036854775807 := rfl
  have hLo : ∀ p ∈ L, OkPh p := fun p hp => by obtain ⟨i, hi, rfl⟩ := List.getElem_of_mem hp; have := hLk i hi; simpa [List.getD, hi] using this
  have hF := film hLo hc0
  have hl0 := hF.l0
  have hlh := hF.le
  have hh1 := hF.h1
  have hS := hF.st
  have hv := hF.vs
  have hn1 := hF.len
  refine Ex.regSeq (ExL.pures 3 rfl ?_)
  refine ExL.nil ?_
  refine Ex.regSeq (ExL.pures 4 rfl ?_)
  refine ExL.op rfl (op_ret rfl rfl rfl (c_l05Begin_t s (by assumption) _ _ (by omega) L (by assumption) _ _ (by omega) lo hi hc0) (fun w hw => ⟨Reads.get (Reads.old hs) w hw, Reads.get (Reads.old hLr) w hw⟩) rfl rfl (fun x1 hx1 => ?_))
  have hfk := fk hF hx1
  have hkl := hfk.len
  have hfv := hfk.v
  have hfl := hfk.vl
  refine ExL.pures 5 rfl ?_
  refine ExL.nil ?_
  refine Ex.seq ?_
  refine Ex.regSeq (ExL.pures 1 rfl ?_)
  refine ExL.free (fr_eql_t rfl rfl rfl (rfl)) rfl rfl rfl ?_
  refine ExL.pures 8 rfl ?_
  refine ExL.op rfl (op_ret rfl rfl rfl (c_l00In _ _ _) (fun _ _ => trivial) rfl rfl (fun x2 hx2 => ?_))
  refine ExL.pures 2 rfl ?_
  refine ExL.nil ?_
  refine Ex.cond rfl (fun hb3 => ?_) (fun hb3 => ?_)
  · replace hb3 := nd_t hb3
    refine Ex.region (ExL.pures 1 rfl ?_)
    refine ExL.nil ?_
    refine Ex.seq ?_
    refine Ex.regSeq (ExL.pures 1 rfl ?_)
    refine ExL.neq rfl rfl rfl rfl rfl rfl (fun h4 => ?_) (fun h4 => ?_)
    · refine ExL.nil ?_
      refine Ex.cond_t rfl ?_
      have hcu : codeF s L lo hi us = 2 := cu_2 (by omega) (by omega)
      have hcn : codeF s L lo hi us ≠ 0 := by omega
      refine Ex.regSeq (ExL.pures 0 rfl ?_)
      refine ExL.op rfl (op_buildSlice (sz := 1) rfl rfl rfl rfl rfl rfl rfl rfl (by decide) rfl rfl rfl (fun r5 => ?_))
      refine ExL.pures 4 rfl ?_
      refine ExL.nil ?_
      refine Ex.ret ?_
      refine RetQ.mk ((some ⟨r5, 0, none⟩), 0) rfl (.tmp rfl (.tmp rfl (.tmp rfl .nil))) (t3 (by first | (rw [hll, hlk]; first | done | rfl) | (rw [hlk]; first | done | rfl) | (rw [hll]; first | done | rfl) | (rw [lk_c hcn, hcu]; first | done | rfl) | (rw [lk_c hc0]; first | done | rfl) | (rw [lk_6 hc1 hx1 (by omega) hJl hR (by omega)]; first | done | rfl)) (by first | (rw [hll, hlk]; first | done | rfl) | (rw [hlk]; first | done | rfl) | (rw [hll]; first | done | rfl) | (rw [lk_c hcn, hcu]; first | done | rfl) | (rw [lk_c hc0]; first | done | rfl) | (rw [lk_6 hc1 hx1 (by omega) hJl hR (by omega)]; first | done | rfl)) (by first | (rw [hll, hlk]; first | done | rfl) | (rw [hlk]; first | done | rfl) | (rw [hll]; first | done | rfl) | (rw [lk_c hcn, hcu]; first | done | rfl) | (rw [lk_c hc0]; first | done | rfl) | (rw [lk_6 hc1 hx1 (by omega) hJl hR (by omega)]; first | done | rfl))) [0] (by first | (rw [hll, hlk]; first | done | rfl) | (rw [hlk]; first | done | rfl) | (rw [hll]; first | done | rfl) | (rw [lk_c hcn, hcu]; first | done | rfl) | (rw [lk_c hc0]; first | done | rfl) | (rw [lk_6 hc1 hx1 (by omega) hJl hR (by omega)]; first | done | rfl)) rfl (trivial)
    · refine ExL.nil ?_
      refine Ex.cond_f rfl ?_
      refine Ex.skip ?_
      exfalso; omega
  · replace hb3 := nd_f hb3
    refine Ex.skip ?_
    refine Ex.seq ?_
    refine Ex.regSeq (ExL.pures 1 rfl ?_)
    refine ExL.neq rfl rfl rfl rfl rfl rfl (fun h6 => ?_) (fun h6 => ?_)
    · refine ExL.nil ?_
      refine Ex.cond_t rfl ?_
      exfalso; omega
    · refine ExL.nil ?_
      refine Ex.cond_f rfl ?_
      refine Ex.skip ?_
      have hus : 0 ≤ us ∧ us ≤ 1000000000000 := by omega
      have hc1 : codeF s L lo hi us = 0 := (cu_s (.inr (by omega))).trans hc0
      refine Ex.regSeq (ExL.pures 2 rfl ?_)
      refine ExL.op rfl (op_ret rfl rfl rfl (c_costs _ x1.K L.length hfk lo hi (by omega) x1.A x1.c _ us (by omega)) (fun w hw => ⟨Reads.get (Reads.blk (i := 0) rfl) w hw, Reads.get (Reads.row (i := 1) rfl) w hw, fun k hk => Reads.get (readsX (i := 2) rfl hk) w hw⟩) rfl rfl (fun x7 hx7 => ?_))
      obtain ⟨hJl, hR⟩ := hx7
      have hjl : ∀ k, k < L.length → (x7.2.getD (x1.K.length - 1 - k) zX).xs.length = (x1.K.getD k zX).xs.length := fun k hk => by rw [hR _ (by omega), cost_ln (by omega)]; show (x1.K.getD (x1.K.length - 1 - (x1.K.length - 1 - k)) zX).xs.length = _; rw [show x1.K.length - 1 - (x1.K.length - 1 - k) = k by omega]
      have hjl0 := hjl 0 (by omega)
      have hvl0 := hfl 0 (by omega)
      have hFa := fk_all hfk
      have hco := fun k (hk : k < x7.2.length) (q : Nat) => co_bd (F := fun k => (x1.K.getD k zX).xs) (lo := lo) (hi := hi) (us := us) (n := x1.K.length) hFa hus hR (by omega) hk q
      have hbd0 := fun i => bk_bd (x7.2.getD (x1.K.length - 1 - 0) zX).xs i
      refine ExL.pures 1 rfl ?_
      refine ExL.nil ?_
      refine Ex.regSeq (ExL.pures 1 rfl ?_)
      refine ExL.nil ?_
      refine Ex.seq ?_
      refine Ex.regSeq (ExL.pures 1 rfl ?_)
      refine ExL.nil ?_
      refine Ex.block ?_
      refine Ex.loopK (X := Nat) (fun i => [(16, .int .i64 (bestC (x7.2.getD (x1.K.length - 1 - 0) zX).xs i)), (17, .int .i64 i)]) (fun i => []) (fun i => i ≤ (x1.K.getD 0 zX).xs.length) (fun i => (x1.K.getD 0 zX).xs.length - i) 0 [(4, _), (10, _), (11, _), (12, _), (13, _), (15, _)] [_, _, _, _, _] 5 [0, 1, 2, 3, 4] ⟨rfl, rfl, trivial⟩ ⟨rfl, rfl, rfl, rfl, rfl, rfl, trivial⟩ (rfl) rfl (Nat.zero_le _) (fun i hI => ?_)
      have hI : i ≤ (x1.K.getD 0 zX).xs.length := hI
      have hcoi := hco (x1.K.length - 1 - 0) (by omega) i
      have hbdi := hbd0 i
      have hbci := bk_bc (x7.2.getD (x1.K.length - 1 - 0) zX).xs i
      have hnni := bk_nn (x7.2.getD (x1.K.length - 1 - 0) zX).xs i
      refine Ex.seq ?_
      refine Ex.regSeq (ExL.pures 2 rfl ?_)
      refine ExL.free (fr_indexAddr (sz := 1) rfl rfl rfl rfl rfl rfl (by omega)) rfl rfl rfl ?_
      refine ExL.free (fr_load rfl rfl rfl rfl (cellE (r := (x7.2.getD (x1.K.length - 1 - 0) zX)) (i := 0) (0) (Reads.row (i := 0) rfl) encX_len zX 0 rfl (by omega) (by rw [outE_len]; omega) (outE_at (by omega)) rfl)) rfl rfl rfl ?_
      refine ExL.pures 1 rfl ?_
      refine ExL.lss rfl rfl rfl rfl rfl rfl (fun h8 => ?_) (fun h8 => ?_)
      · refine ExL.nil ?_
        refine Ex.cond_t rfl ?_
        refine Ex.skip ?_
        refine Ex.seq ?_
        refine Ex.block ?_
        refine Ex.regSeq (ExL.pures 1 rfl ?_)
        refine ExL.free (fr_indexAddr (sz := 1) rfl rfl rfl rfl rfl rfl (by omega)) rfl rfl rfl ?_
        refine ExL.free (fr_load rfl rfl rfl rfl (cellE (r := (x7.2.getD (x1.K.length - 1 - 0) zX)) (i := 0) (0) (Reads.row (i := 0) rfl) encX_len zX 0 rfl (by omega) (by rw [outE_len]; omega) (outE_at (by omega)) rfl)) rfl rfl rfl ?_
        refine ExL.pures 1 rfl ?_
        refine ExL.free (fr_indexAddrF (readsX (i := 1) rfl (k := (x1.K.length - 1 - 0)) (by omega)) (eI_len .i64) rfl rfl rfl rfl rfl rfl (by omega)) rfl rfl rfl ?_
        refine ExL.free (fr_load rfl rfl rfl rfl (by first | exact cellN (readsX (i := 1) rfl (k := (x1.K.length - 1 - 0)) (by omega)) (eI_len .i64) 0 0 rfl (by omega) rfl | exact cellF (readsX (i := 1) rfl (k := (x1.K.length - 1 - 0)) (by omega)) (eI_len .i64) 0 0 rfl (by omega) rfl)) rfl rfl rfl ?_
        refine ExL.geq rfl rfl rfl rfl rfl rfl (fun h9 => ?_) (fun h9 => ?_)
        · refine ExL.pures 2 rfl ?_
          refine ExL.lss rfl rfl rfl rfl rfl rfl (fun h10 => ?_) (fun h10 => ?_)
          · refine ExL.pures 11 rfl ?_
            refine ExL.nil ?_
            refine Ex.cond_t rfl ?_
            refine Ex.region (ExL.pures 1 rfl ?_)
            refine ExL.free (fr_indexAddr (sz := 1) rfl rfl rfl rfl rfl rfl (by omega)) rfl rfl rfl ?_
            refine ExL.free (fr_load rfl rfl rfl rfl (cellE (r := (x7.2.getD (x1.K.length - 1 - 0) zX)) (i := 0) (0) (Reads.row (i := 0) rfl) encX_len zX 0 rfl (by omega) (by rw [outE_len]; omega) (outE_at (by omega)) rfl)) rfl rfl rfl ?_
            refine ExL.pures 1 rfl ?_
            refine ExL.free (fr_indexAddrF (readsX (i := 1) rfl (k := (x1.K.length - 1 - 0)) (by omega)) (eI_len .i64) rfl rfl rfl rfl rfl rfl (by omega)) rfl rfl rfl ?_
            refine ExL.free (fr_load rfl rfl rfl rfl (by first | exact cellN (readsX (i := 1) rfl (k := (x1.K.length - 1 - 0)) (by omega)) (eI_len .i64) 0 0 rfl (by omega) rfl | exact cellF (readsX (i := 1) rfl (k := (x1.K.length - 1 - 0)) (by omega)) (eI_len .i64) 0 0 rfl (by omega) rfl)) rfl rfl rfl ?_
            refine ExL.pures 1 rfl ?_
            refine ExL.nil ?_
            refine Ex.region (ExL.pures 1 rfl ?_)
            refine ExL.free (by first | exact fr_add64 rfl rfl rfl (by omega) | exact fr_add rfl rfl rfl) rfl rfl rfl ?_
            refine ExL.pures 1 rfl ?_
            refine ExL.nil ?_
            refine Hand.mk (i + 1) 5 [0, 1, 2, 3, 4] ⟨agI (by first | rw [bc_y (c := (x7.2.getD (x1.K.length - 1 - 0) zX).xs) (i := i) (by omega) (by omega)] | rw [bc_n (c := (x7.2.getD (x1.K.length - 1 - 0) zX).xs) (i := i) (by omega)]), rfl, trivial⟩ ⟨rfl, rfl, rfl, rfl, rfl, rfl, trivial⟩ (rfl) rfl (by omega) (by omega)
          · refine ExL.pures 2 rfl ?_
            refine ExL.free (fr_indexAddr (sz := 1) rfl rfl rfl rfl rfl rfl (by omega)) rfl rfl rfl ?_
            refine ExL.free (fr_load rfl rfl rfl rfl (cellE (r := (x7.2.getD (x1.K.length - 1 - 0) zX)) (i := 0) (0) (Reads.row (i := 0) rfl) encX_len zX 0 rfl (by omega) (by rw [outE_len]; omega) (outE_at (by omega)) rfl)) rfl rfl rfl ?_
            refine ExL.pures 1 rfl ?_
            refine ExL.free (fr_indexAddrF (readsX (i := 1) rfl (k := (x1.K.length - 1 - 0)) (by omega)) (eI_len .i64) rfl rfl rfl rfl rfl rfl (by omega)) rfl rfl rfl ?_
            refine ExL.free (fr_load rfl rfl rfl rfl (by first | exact cellN (readsX (i := 1) rfl (k := (x1.K.length - 1 - 0)) (by omega)) (eI_len .i64) 0 0 rfl (by omega) rfl | exact cellF (readsX (i := 1) rfl (k := (x1.K.length - 1 - 0)) (by omega)) (eI_len .i64) 0 0 rfl (by omega) rfl)) rfl rfl rfl ?_
            refine ExL.pures 1 rfl ?_
            refine ExL.lss rfl rfl rfl rfl rfl rfl (fun h11 => ?_) (fun h11 => ?_)
            · refine ExL.pures 2 rfl ?_
              refine ExL.nil ?_
              refine Ex.cond_t rfl ?_
              refine Ex.region (ExL.pures 1 rfl ?_)
              refine ExL.free (fr_indexAddr (sz := 1) rfl rfl rfl rfl rfl rfl (by omega)) rfl rfl rfl ?_
              refine ExL.free (fr_load rfl rfl rfl rfl (cellE (r := (x7.2.getD (x1.K.length - 1 - 0) zX)) (i := 0) (0) (Reads.row (i := 0) rfl) encX_len zX 0 rfl (by omega) (by rw [outE_len]; omega) (outE_at (by omega)) rfl)) rfl rfl rfl ?_
              refine ExL.pures 1 rfl ?_
              refine ExL.free (fr_indexAddrF (readsX (i := 1) rfl (k := (x1.K.length - 1 - 0)) (by omega)) (eI_len .i64) rfl rfl rfl rfl rfl rfl (by omega)) rfl rfl rfl ?_
              refine ExL.free (fr_load rfl rfl rfl rfl (by first | exact cellN (readsX (i := 1) rfl (k := (x1.K.length - 1 - 0)) (by omega)) (eI_len .i64) 0 0 rfl (by omega) rfl | exact cellF (readsX (i := 1) rfl (k := (x1.K.length - 1 - 0)) (by omega)) (eI_len .i64) 0 0 rfl (by omega) rfl)) rfl rfl rfl ?_
              refine ExL.pures 1 rfl ?_
              refine ExL.nil ?_
              refine Ex.region (ExL.pures 1 rfl ?_)
              refine ExL.free (by first | exact fr_add64 rfl rfl rfl (by omega) | exact fr_add rfl rfl rfl) rfl rfl rfl ?_
              refine ExL.pures 1 rfl ?_
              refine ExL.nil ?_
              refine Hand.mk (i + 1) 5 [0, 1, 2, 3, 4] ⟨agI (by first | rw [bc_y (c := (x7.2.getD (x1.K.length - 1 - 0) zX).xs) (i := i) (by omega) (by omega)] | rw [bc_n (c := (x7.2.getD (x1.K.length - 1 - 0) zX).xs) (i := i) (by omega)]), rfl, trivial⟩ ⟨rfl, rfl, rfl, rfl, rfl, rfl, trivial⟩ (rfl) rfl (by omega) (by omega)
            · refine ExL.pures 2 rfl ?_
              refine ExL.nil ?_
              refine Ex.cond_f rfl ?_
              refine Ex.skip ?_
              refine Ex.region (ExL.pures 1 rfl ?_)
              refine ExL.free (by first | exact fr_add64 rfl rfl rfl (by omega) | exact fr_add rfl rfl rfl) rfl rfl rfl ?_
              refine ExL.pures 1 rfl ?_
              refine ExL.nil ?_
              refine Hand.mk (i + 1) 5 [0, 1, 2, 3, 4] ⟨agI (by first | rw [bc_y (c := (x7.2.getD (x1.K.length - 1 - 0) zX).xs) (i := i) (by omega) (by omega)] | rw [bc_n (c := (x7.2.getD (x1.K.length - 1 - 0) zX).xs) (i := i) (by omega)]), rfl, trivial⟩ ⟨rfl, rfl, rfl, rfl, rfl, rfl, trivial⟩ (rfl) rfl (by omega) (by omega)
        · refine ExL.pures 14 rfl ?_
          refine ExL.nil ?_
          refine Ex.cond_f rfl ?_
          refine Ex.skip ?_
          refine Ex.region (ExL.pures 1 rfl ?_)
          refine ExL.free (by first | exact fr_add64 rfl rfl rfl (by omega) | exact fr_add rfl rfl rfl) rfl rfl rfl ?_
          refine ExL.pures 1 rfl ?_
          refine ExL.nil ?_
          refine Hand.mk (i + 1) 5 [0, 1, 2, 3, 4] ⟨agI (by first | rw [bc_y (c := (x7.2.getD (x1.K.length - 1 - 0) zX).xs) (i := i) (by omega) (by omega)] | rw [bc_n (c := (x7.2.getD (x1.K.length - 1 - 0) zX).xs) (i := i) (by omega)]), rfl, trivial⟩ ⟨rfl, rfl, rfl, rfl, rfl, rfl, trivial⟩ (rfl) rfl (by omega) (by omega)
      · refine ExL.nil ?_
        refine Ex.cond_f rfl ?_
        refine Ex.exit ?_
        obtain rfl : i = (x1.K.getD 0 zX).xs.length := (by omega)
        refine Ex.seq ?_
        refine Ex.regSeq (ExL.pures 1 rfl ?_)
        refine ExL.lss rfl rfl rfl rfl rfl rfl (fun h12 => ?_) (fun h12 => ?_)
        · refine ExL.nil ?_
          refine Ex.cond_t rfl ?_
          refine Ex.regSeq (ExL.pures 0 rfl ?_)
          refine ExL.op rfl (op_buildSlice (sz := 1) rfl rfl rfl rfl rfl rfl rfl rfl (by decide) rfl rfl rfl (fun r13 => ?_))
          refine ExL.pures 3 rfl ?_
          refine ExL.nil ?_
          refine Ex.ret ?_
          refine RetQ.mk ((some ⟨r13, 0, none⟩), 0) rfl (.tmp rfl (.tmp rfl (.tmp rfl .nil))) (t3 (by first | (rw [hll, hlk]; first | done | rfl) | (rw [hlk]; first | done | rfl) | (rw [hll]; first | done | rfl) | (rw [lk_c hcn, hcu]; first | done | rfl) | (rw [lk_c hc0]; first | done | rfl) | (rw [lk_6 hc1 hx1 (by omega) hJl hR (by omega)]; first | done | rfl)) (by first | (rw [hll, hlk]; first | done | rfl) | (rw [hlk]; first | done | rfl) | (rw [hll]; first | done | rfl) | (rw [lk_c hcn, hcu]; first | done | rfl) | (rw [lk_c hc0]; first | done | rfl) | (rw [lk_6 hc1 hx1 (by omega) hJl hR (by omega)]; first | done | rfl)) (by first | (rw [hll, hlk]; first | done | rfl) | (rw [hlk]; first | done | rfl) | (rw [hll]; first | done | rfl) | (rw [lk_c hcn, hcu]; first | done | rfl) | (rw [lk_c hc0]; first | done | rfl) | (rw [lk_6 hc1 hx1 (by omega) hJl hR (by omega)]; first | done | rfl))) [0] (by first | (rw [hll, hlk]; first | done | rfl) | (rw [hlk]; first | done | rfl) | (rw [hll]; first | done | rfl) | (rw [lk_c hcn, hcu]; first | done | rfl) | (rw [lk_c hc0]; first | done | rfl) | (rw [lk_6 hc1 hx1 (by omega) hJl hR (by omega)]; first | done | rfl)) rfl (trivial)
        · refine ExL.nil ?_
          refine Ex.cond_f rfl ?_
          refine Ex.skip ?_
          have hbe : bestC (x7.2.getD (x1.K.length - 1 - 0) zX).xs (x1.K.getD 0 zX).xs.length = (x7.2.getD (x1.K.length - 1 - 0) zX).xs.getD (bestK (x7.2.getD (x1.K.length - 1 - 0) zX).xs (x1.K.getD 0 zX).xs.length).toNat 0 := by omega
          have hpath := path_ok (lo := lo) (hi := hi) (us := us) (F := (fun k => (x1.K.getD k zX).xs)) (C := (fun k => (x7.2.getD (x1.K.length - 1 - k) zX).xs)) (n := x1.K.length) (show 0 ≤ bestK (x7.2.getD (x1.K.length - 1 - 0) zX).xs (x1.K.getD 0 zX).xs.length by omega) (cos_min hJl hR)
          refine Ex.regSeq (ExL.pures 0 rfl ?_)
          refine ExL.op rfl (op_buildSlice (sz := 1) rfl rfl rfl rfl rfl rfl rfl rfl (by decide) rfl rfl rfl (fun r14 => ?_))
          refine ExL.pures 1 rfl ?_
          refine ExL.nil ?_
          refine Ex.regSeq (ExL.pures 2 rfl ?_)
          refine ExL.nil ?_
          refine Ex.seq ?_
          refine Ex.regSeq (ExL.pures 1 rfl ?_)
          refine ExL.nil ?_
          refine Ex.block ?_
          refine Ex.loopA (fun k A c => [(18, .slice A k c), (19, .int .i64 (leftQ lo hi us (fun k => (x1.K.getD k zX).xs) (fun k => (x7.2.getD (x1.K.length - 1 - k) zX).xs) k)), (20, .int .i64 k)]) (fun k A c => [.row (.slice A k c) 2 1 k ((outQ lo hi us (fun k => (x1.K.getD k zX).xs) (fun k => (x7.2.getD (x1.K.length - 1 - k) zX).xs) k).flatMap (eI .i64))]) (fun k => k ≤ x1.K.length) (fun k => x1.K.length - k) 0 ((some ⟨r14, 0, none⟩)) (0) [(4, _), (10, _), (11, _), (12, _), (13, _), (15, _), (16, _)] [_, _, _, _, _] 6 [0, 1, 2, 3, 4, 5] ⟨rfl, agI (by first | rfl | exact hbe | exact hbe.symm), rfl, trivial⟩ ⟨rfl, rfl, rfl, rfl, rfl, rfl, rfl, trivial⟩ (rfl) rfl (Nat.zero_le _) (fun k A c hI => ?_)
          have hI : k ≤ x1.K.length := hI
          refine Ex.seq ?_
          refine Ex.regSeq (ExL.pures 4 rfl ?_)
          refine ExL.free (fr_load rfl rfl rfl rfl (CellO.blk (i := 3) rfl rfl)) rfl rfl rfl ?_
          refine ExL.pures 1 rfl ?_
          refine ExL.lss rfl rfl rfl rfl rfl rfl (fun h15 => ?_) (fun h15 => ?_)
          · refine ExL.nil ?_
            refine Ex.cond_t rfl ?_
            refine Ex.skip ?_
            refine Ex.seq ?_
            refine Ex.block ?_
            have hkL : k < L.length := by omega
            have hvl := hfl k hkL
            have hjk := hjl k hkL
            have hpk := hpath k (by omega)
            have hvi := hFa (k - 1) (idxP lo hi us (fun k => (x1.K.getD k zX).xs) (fun k => (x7.2.getD (x1.K.length - 1 - k) zX).xs) (k - 1))
            refine Ex.regSeq (ExL.pures 1 rfl ?_)
            refine ExL.nil ?_
            refine Ex.block ?_
            refine Ex.loopK (X := Nat) (fun j => [(21, .int .i64 j), (18, .slice A k c), (19, .int .i64 (leftQ lo hi us (fun k => (x1.K.getD k zX).xs) (fun k => (x7.2.getD (x1.K.length - 1 - k) zX).xs) k))]) (fun j => []) (fun j => j ≤ (x1.K.getD k zX).xs.length ∧ ∀ i, i < j → okA lo hi us (fun k => (x1.K.getD k zX).xs) (fun k => (x7.2.getD (x1.K.length - 1 - k) zX).xs) (bestV (fun k => (x1.K.getD k zX).xs) (fun k => (x7.2.getD (x1.K.length - 1 - k) zX).xs)) k (idxP lo hi us (fun k => (x1.K.getD k zX).xs) (fun k => (x7.2.getD (x1.K.length - 1 - k) zX).xs) (k - 1)) i = false) (fun j => (x1.K.getD k zX).xs.length - j) 0 [(4, _), (10, _), (11, _), (12, _), (13, _), (15, _), (16, _), (20, _)] [_, _, _, _, _, _] 6 [0, 1, 2, 3, 4, 5] ⟨rfl, rfl, rfl, trivial⟩ ⟨rfl, rfl, rfl, rfl, rfl, rfl, rfl, rfl, trivial⟩ (rfl) rfl ⟨Nat.zero_le _, fun i hi => by omega⟩ (fun j hI => ?_)
            have hI : j ≤ (x1.K.getD k zX).xs.length ∧ ∀ i, i < j → okA lo hi us (fun k => (x1.K.getD k zX).xs) (fun k => (x7.2.getD (x1.K.length - 1 - k) zX).xs) (bestV (fun k => (x1.K.getD k zX).xs) (fun k => (x7.2.getD (x1.K.length - 1 - k) zX).xs)) k (idxP lo hi us (fun k => (x1.K.getD k zX).xs) (fun k => (x7.2.getD (x1.K.length - 1 - k) zX).xs) (k - 1)) i = false := hI
            obtain ⟨hj, hall⟩ := hI
            refine Ex.seq ?_
            refine Ex.regSeq (ExL.pures 3 rfl ?_)
            refine ExL.free (fr_indexAddr (sz := 1) rfl rfl rfl rfl rfl rfl (by omega)) rfl rfl rfl ?_
            refine ExL.free (fr_load rfl rfl rfl rfl (cellE (r := (x7.2.getD (x1.K.length - 1 - k) zX)) (i := ↑k) (k) (Reads.row (i := 1) rfl) encX_len zX 0 rfl (by omega) (by rw [outE_len]; omega) (outE_at (by omega)) rfl)) rfl rfl rfl ?_
            refine ExL.pures 1 rfl ?_
            refine ExL.lss rfl rfl rfl rfl rfl rfl (fun h16 => ?_) (fun h16 => ?_)
            · refine ExL.nil ?_
              refine Ex.cond_t rfl ?_
              refine Ex.skip ?_
              refine Ex.seq ?_
              refine Ex.block ?_
              have hjj : j < (x1.K.getD k zX).xs.length := by omega
              have hvj := hFa k j
              have hab := abs_bd hvi hvj hus
              have hcj := hco (x1.K.length - 1 - k) (by omega) j
              refine Ex.regSeq (ExL.pures 1 rfl ?_)
              refine ExL.nil ?_
              refine Ex.seq ?_
              refine Ex.regSeq (ExL.pures 1 rfl ?_)
              refine ExL.gtr rfl rfl rfl rfl rfl rfl (fun h17 => ?_) (fun h17 => ?_)
              · refine ExL.nil ?_
                refine Ex.cond_t rfl ?_
                refine Ex.seq ?_
                refine Ex.drawSeqM rfl ?_
                refine ExD.take (i := 0) rfl (by kernel_rfl) (pureVal_ok rfl) ((List.Sublist.refl _)) rfl rfl rfl ?_
                refine ExD.take (i := 1) rfl (by kernel_rfl) (pureVal_ok rfl) ((List.Sublist.refl _)) rfl rfl rfl ?_
                refine ExD.take (i := 2) rfl (by kernel_rfl) (pureVal_ok rfl) ((List.Sublist.refl _)) rfl rfl rfl ?_
                refine ExD.take (i := 3) rfl (by kernel_rfl) (Free.val ((k - 1 : Nat) : Int) (fr_sub64 rfl rfl rfl (by omega)) (by omega)) ((List.Sublist.refl _)) rfl rfl rfl ?_
                refine ExD.take (i := 4) rfl (by kernel_rfl) (fr_indexAddrR (sz := 1) 0 rfl rfl rfl rfl rfl rfl (by omega)) ((List.Sublist.refl _)) rfl rfl rfl ?_
                refine ExD.take (i := 5) rfl (by kernel_rfl) (fr_load rfl rfl rfl rfl (cellW (v := .int .i64 ((x1.K.getD (k - 1) zX).xs.getD (idxP lo hi us (fun k => (x1.K.getD k zX).xs) (fun k => (x7.2.getD (x1.K.length - 1 - k) zX).xs) (k - 1)) 0)) (i := ↑(k - 1)) (k - 1) (Reads.row (i := 0) rfl) (eI_len .i64) 0 0 rfl (by omega) (by rw [outQ_len]; omega) (outQ_at (by omega)) rfl)) ((List.Sublist.refl _)) rfl rfl rfl ?_
                refine ExD.take (i := 6) rfl (by kernel_rfl) (pureVal_ok rfl) ((List.Sublist.refl _)) rfl rfl rfl ?_
                refine ExD.take (i := 7) rfl (by kernel_rfl) (pureVal_ok rfl) ((List.Sublist.refl _)) rfl rfl rfl ?_
                refine ExD.take (i := 8) rfl (by kernel_rfl) (pureVal_ok rfl) ((List.Sublist.refl _)) rfl rfl rfl ?_
                refine ExD.take (i := 9) rfl (by kernel_rfl) (fr_load rfl rfl rfl rfl (CellO.blk (i := 3) rfl rfl)) ((List.Sublist.refl _)) rfl rfl rfl ?_
                refine ExD.take (i := 10) rfl (by kernel_rfl) (pureVal_ok rfl) ((List.Sublist.refl _)) rfl rfl rfl ?_
                refine ExD.take (i := 11) rfl (by kernel_rfl) (fr_indexAddrR (sz := 1) 4 rfl rfl rfl rfl rfl rfl (by omega)) ((List.Sublist.refl _)) rfl rfl rfl ?_
                refine ExD.take (i := 12) rfl (by kernel_rfl) (fr_load rfl rfl rfl rfl (by first | exact cellN (Reads.row (i := 4) rfl) encX_len zX 0 rfl (by omega) rfl | exact cellF (Reads.row (i := 4) rfl) encX_len zX 0 rfl (by omega) rfl)) ((List.Sublist.refl _)) rfl rfl rfl ?_
                refine ExD.take (i := 13) rfl (by kernel_rfl) (pureVal_ok rfl) ((List.Sublist.refl _)) rfl rfl rfl ?_
                refine ExD.take (i := 14) rfl (by kernel_rfl) (fr_indexAddrF (readsX (i := 5) rfl (k := k) (by omega)) (eI_len .i64) rfl rfl rfl rfl rfl rfl (by omega)) ((List.Sublist.refl _)) rfl rfl rfl ?_
                refine ExD.take (i := 15) rfl (by kernel_rfl) (fr_load rfl rfl rfl rfl (by first | exact cellN (readsX (i := 5) rfl (k := k) (by omega)) (eI_len .i64) 0 0 rfl (by omega) rfl | exact cellF (readsX (i := 5) rfl (k := k) (by omega)) (eI_len .i64) 0 0 rfl (by omega) rfl)) ((List.Sublist.refl _)) rfl rfl rfl ?_
                refine ExD.op (i := 16) rfl (by kernel_rfl) rfl (op_ret rfl rfl rfl (c_follows _ _ lo hi (by omega) _ ((x1.K.getD (k - 1) zX).xs.getD (idxP lo hi us (fun k => (x1.K.getD k zX).xs) (fun k => (x7.2.getD (x1.K.length - 1 - k) zX).xs) (k - 1)) 0) ((x1.K.getD k zX).xs.getD j 0) (by omega) (by omega)) (Reads.get (Reads.blk (i := 3) rfl)) rfl rfl (fun x18 hx18 => ⟨(List.Sublist.refl _), ?_⟩))
                refine ExD.take (i := 17) rfl (by kernel_rfl) (pureVal_ok rfl) ((List.Sublist.refl _)) rfl rfl rfl ?_
                refine ExD.done (by kernel_rfl) ?_
                refine Ex.cond rfl (fun hb19 => ?_) (fun hb19 => ?_)
                · replace hb19 := nb_t hb19
                  refine Ex.exit ?_
                  refine Ex.region (ExL.pures 1 rfl ?_)
                  refine ExL.free (by first | exact fr_add64 rfl rfl rfl (by omega) | exact fr_add rfl rfl rfl) rfl rfl rfl ?_
                  refine ExL.pures 1 rfl ?_
                  refine ExL.nil ?_
                  refine Hand.mk (j + 1) 6 [0, 1, 2, 3, 4, 5] ⟨rfl, rfl, rfl, trivial⟩ ⟨rfl, rfl, rfl, rfl, rfl, rfl, rfl, rfl, trivial⟩ (rfl) rfl (⟨by omega, all_snoc hall (by first | exact ok_n1 (by omega) | exact ok_n2 (by omega) (by assumption) | exact ok_n3 (by omega) (by omega) rfl | exact ok_0n (by omega) (by omega))⟩) (by omega)
                · replace hb19 := nb_f hb19
                  refine Ex.skip ?_
                  refine Ex.drawM rfl ?_
                  refine ExD.take (i := 0) rfl (by kernel_rfl) (pureVal_ok rfl) ((List.Sublist.refl _)) rfl rfl rfl ?_
                  refine ExD.take (i := 1) rfl (by kernel_rfl) (pureVal_ok rfl) ((List.Sublist.refl _)) rfl rfl rfl ?_
                  refine ExD.take (i := 2) rfl (by kernel_rfl) (pureVal_ok rfl) ((List.Sublist.refl _)) rfl rfl rfl ?_
                  refine ExD.take (i := 3) rfl (by kernel_rfl) (fr_load rfl rfl rfl rfl (CellO.blk (i := 3) rfl rfl)) ((List.Sublist.refl _)) rfl rfl rfl ?_
                  refine ExD.take (i := 4) rfl (by kernel_rfl) (pureVal_ok rfl) ((List.Sublist.refl _)) rfl rfl rfl ?_
                  refine ExD.take (i := 5) rfl (by kernel_rfl) (fr_indexAddrR (sz := 1) 4 rfl rfl rfl rfl rfl rfl (by omega)) ((List.Sublist.refl _)) rfl rfl rfl ?_
                  refine ExD.take (i := 6) rfl (by kernel_rfl) (fr_load rfl rfl rfl rfl (by first | exact cellN (Reads.row (i := 4) rfl) encX_len zX 0 rfl (by omega) rfl | exact cellF (Reads.row (i := 4) rfl) encX_len zX 0 rfl (by omega) rfl)) ((List.Sublist.refl _)) rfl rfl rfl ?_
                  refine ExD.take (i := 7) rfl (by kernel_rfl) (pureVal_ok rfl) ((List.Sublist.refl _)) rfl rfl rfl ?_
                  refine ExD.take (i := 8) rfl (by kernel_rfl) (fr_indexAddrF (readsX (i := 5) rfl (k := k) (by omega)) (eI_len .i64) rfl rfl rfl rfl rfl rfl (by omega)) ((List.Sublist.refl _)) rfl rfl rfl ?_
                  refine ExD.take (i := 9) rfl (by kernel_rfl) (fr_load rfl rfl rfl rfl (by first | exact cellN (readsX (i := 5) rfl (k := k) (by omega)) (eI_len .i64) 0 0 rfl (by omega) rfl | exact cellF (readsX (i := 5) rfl (k := k) (by omega)) (eI_len .i64) 0 0 rfl (by omega) rfl)) ((List.Sublist.refl _)) rfl rfl rfl ?_
                  refine ExD.take (i := 10) rfl (by kernel_rfl) (pureVal_ok rfl) ((List.Sublist.refl _)) rfl rfl rfl ?_
                  refine ExD.take (i := 11) rfl (by kernel_rfl) (pureVal_ok rfl) ((List.Sublist.refl _)) rfl rfl rfl ?_
                  refine ExD.take (i := 12) rfl (by kernel_rfl) (Free.val ((k - 1 : Nat) : Int) (fr_sub64 rfl rfl rfl (by omega)) (by omega)) ((List.Sublist.refl _)) rfl rfl rfl ?_
                  refine ExD.take (i := 13) rfl (by kernel_rfl) (fr_indexAddrR (sz := 1) 0 rfl rfl rfl rfl rfl rfl (by omega)) ((List.Sublist.refl _)) rfl rfl rfl ?_
                  refine ExD.take (i := 14) rfl (by kernel_rfl) (fr_load rfl rfl rfl rfl (cellW (v := .int .i64 ((x1.K.getD (k - 1) zX).xs.getD (idxP lo hi us (fun k => (x1.K.getD k zX).xs) (fun k => (x7.2.getD (x1.K.length - 1 - k) zX).xs) (k - 1)) 0)) (i := ↑(k - 1)) (k - 1) (Reads.row (i := 0) rfl) (eI_len .i64) 0 0 rfl (by omega) (by rw [outQ_len]; omega) (outQ_at (by omega)) rfl)) ((List.Sublist.refl _)) rfl rfl rfl ?_
                  refine ExD.take (i := 15) rfl (by kernel_rfl) (by first | exact fr_sub64 rfl rfl rfl (by omega) | exact fr_sub rfl rfl rfl) ((List.Sublist.refl _)) rfl rfl rfl ?_
                  refine ExD.take (i := 16) rfl (by kernel_rfl) (pureVal_ok rfl) ((List.Sublist.refl _)) rfl rfl rfl ?_
                  refine ExD.take (i := 17) rfl (by kernel_rfl) (by first | exact fr_sub64 rfl rfl rfl (by omega) | exact fr_sub rfl rfl rfl) ((List.Sublist.refl _)) rfl rfl rfl ?_
                  refine ExD.op (i := 18) rfl (by kernel_rfl) rfl (op_ret rfl rfl rfl (c_l05Size ((((x1.K.getD k zX).xs.getD j 0) - ((x1.K.getD (k - 1) zX).xs.getD (idxP lo hi us (fun k => (x1.K.getD k zX).xs) (fun k => (x7.2.getD (x1.K.length - 1 - k) zX).xs) (k - 1)) 0)) - us) (by omega)) (fun _ _ => trivial) rfl rfl (fun x20 hx20 => ⟨(List.Sublist.refl _), ?_⟩))
                  refine ExD.take (i := 19) rfl (by kernel_rfl) (pureVal_ok rfl) ((List.Sublist.refl _)) rfl rfl rfl ?_
                  refine ExD.done (by kernel_rfl) ?_
                  refine Ex.regSeq (ExL.pures 2 rfl ?_)
                  refine ExL.free (fr_indexAddr (sz := 1) rfl rfl rfl rfl rfl rfl (by omega)) rfl rfl rfl ?_
                  refine ExL.free (fr_load rfl rfl rfl rfl (cellE (r := (x7.2.getD (x1.K.length - 1 - k) zX)) (i := ↑k) (k) (Reads.row (i := 1) rfl) encX_len zX 0 rfl (by omega) (by rw [outE_len]; omega) (outE_at (by omega)) rfl)) rfl rfl rfl ?_
                  refine ExL.pures 1 rfl ?_
                  refine ExL.free (fr_indexAddrF (readsX (i := 2) rfl (k := (x1.K.length - 1 - k)) (by omega)) (eI_len .i64) rfl rfl rfl rfl rfl rfl (by omega)) rfl rfl rfl ?_
                  refine ExL.free (fr_load rfl rfl rfl rfl (by first | exact cellN (readsX (i := 2) rfl (k := (x1.K.length - 1 - k)) (by omega)) (eI_len .i64) 0 0 rfl (by omega) rfl | exact cellF (readsX (i := 2) rfl (k := (x1.K.length - 1 - k)) (by omega)) (eI_len .i64) 0 0 rfl (by omega) rfl)) rfl rfl rfl ?_
                  refine ExL.geq rfl rfl rfl rfl rfl rfl (fun h21 => ?_) (fun h21 => ?_)
                  · refine ExL.pures 3 rfl ?_
                    refine ExL.free (fr_indexAddr (sz := 1) rfl rfl rfl rfl rfl rfl (by omega)) rfl rfl rfl ?_
                    refine ExL.free (fr_load rfl rfl rfl rfl (cellE (r := (x7.2.getD (x1.K.length - 1 - k) zX)) (i := ↑k) (k) (Reads.row (i := 1) rfl) encX_len zX 0 rfl (by omega) (by rw [outE_len]; omega) (outE_at (by omega)) rfl)) rfl rfl rfl ?_
                    refine ExL.pures 1 rfl ?_
                    refine ExL.free (fr_indexAddrF (readsX (i := 2) rfl (k := (x1.K.length - 1 - k)) (by omega)) (eI_len .i64) rfl rfl rfl rfl rfl rfl (by omega)) rfl rfl rfl ?_
                    refine ExL.free (fr_load rfl rfl rfl rfl (by first | exact cellN (readsX (i := 2) rfl (k := (x1.K.length - 1 - k)) (by omega)) (eI_len .i64) 0 0 rfl (by omega) rfl | exact cellF (readsX (i := 2) rfl (k := (x1.K.length - 1 - k)) (by omega)) (eI_len .i64) 0 0 rfl (by omega) rfl)) rfl rfl rfl ?_
                    refine ExL.pures 1 rfl ?_
                    refine ExL.free (by first | exact fr_add64 rfl rfl rfl (by omega) | exact fr_add rfl rfl rfl) rfl rfl rfl ?_
                    refine ExL.pures 1 rfl ?_
                    refine ExL.eql rfl rfl rfl rfl rfl rfl (fun h22 => ?_) (fun h22 => ?_)
                    · refine ExL.pures 1 rfl ?_
                      refine ExL.nil ?_
                      refine Ex.cond_t rfl ?_
                      refine Ex.regSeq (ExL.pures 4 rfl ?_)
                      refine ExL.free (fr_load rfl rfl rfl rfl (CellO.blk (i := 3) rfl rfl)) rfl rfl rfl ?_
                      refine ExL.pures 1 rfl ?_
                      refine ExL.free (fr_indexAddrR (sz := 1) 4 rfl rfl rfl rfl rfl rfl (by omega)) rfl rfl rfl ?_
                      refine ExL.free (fr_load rfl rfl rfl rfl (by first | exact cellN (Reads.row (i := 4) rfl) encX_len zX 0 rfl (by omega) rfl | exact cellF (Reads.row (i := 4) rfl) encX_len zX 0 rfl (by omega) rfl)) rfl rfl rfl ?_
                      refine ExL.pures 1 rfl ?_
                      refine ExL.free (fr_indexAddrF (readsX (i := 5) rfl (k := k) (by omega)) (eI_len .i64) rfl rfl rfl rfl rfl rfl (by omega)) rfl rfl rfl ?_
                      refine ExL.free (fr_load rfl rfl rfl rfl (by first | exact cellN (readsX (i := 5) rfl (k := k) (by omega)) (eI_len .i64) 0 0 rfl (by omega) rfl | exact cellF (readsX (i := 5) rfl (k := k) (by omega)) (eI_len .i64) 0 0 rfl (by omega) rfl)) rfl rfl rfl ?_
                      refine ExL.op rfl (op_buildSlice (sz := 1) rfl rfl rfl rfl rfl rfl rfl rfl (by decide) rfl rfl rfl (fun r23 => ?_))
                      refine ExL.op rfl (op_append (sz := 1) (bytes := 8) (i := 1) rfl rfl rfl rfl (Reads.row (i := 0) rfl) rfl (fun e => nomatch e) rfl rfl rfl rfl (by constructor <;> first | omega | (unfold maxLen; omega)) rfl rfl (fun A24 cA24 => ?_))
                      refine ExL.pures 1 rfl ?_
                      refine ExL.nil ?_
                      refine Ex.regSeq (ExL.pures 2 rfl ?_)
                      refine ExL.free (fr_indexAddr (sz := 1) rfl rfl rfl rfl rfl rfl (by omega)) rfl rfl rfl ?_
                      refine ExL.free (fr_load rfl rfl rfl rfl (cellE (r := (x7.2.getD (x1.K.length - 1 - k) zX)) (i := ↑k) (k) (Reads.row (i := 2) rfl) encX_len zX 0 rfl (by omega) (by rw [outE_len]; omega) (outE_at (by omega)) rfl)) rfl rfl rfl ?_
                      refine ExL.pures 1 rfl ?_
                      refine ExL.free (fr_indexAddrF (readsX (i := 3) rfl (k := (x1.K.length - 1 - k)) (by omega)) (eI_len .i64) rfl rfl rfl rfl rfl rfl (by omega)) rfl rfl rfl ?_
                      refine ExL.free (fr_load rfl rfl rfl rfl (by first | exact cellN (readsX (i := 3) rfl (k := (x1.K.length - 1 - k)) (by omega)) (eI_len .i64) 0 0 rfl (by omega) rfl | exact cellF (readsX (i := 3) rfl (k := (x1.K.length - 1 - k)) (by omega)) (eI_len .i64) 0 0 rfl (by omega) rfl)) rfl rfl rfl ?_
                      refine ExL.pures 1 rfl ?_
                      refine ExL.nil ?_
                      refine Ex.exit ?_
                      have hix := idx_eq hpk hall (ok_y (lo := lo) (hi := hi) (us := us) (F := (fun k => (x1.K.getD k zX).xs)) (C := (fun k => (x7.2.getD (x1.K.length - 1 - k) zX).xs)) (k := k) (i := (idxP lo hi us (fun k => (x1.K.getD k zX).xs) (fun k => (x7.2.getD (x1.K.length - 1 - k) zX).xs) (k - 1))) (j := j) (by omega) (by omega) (by assumption) (by omega) rfl)
                      have hlq : (x7.2.getD (x1.K.length - 1 - k) zX).xs.getD j 0 = leftQ lo hi us (fun k => (x1.K.getD k zX).xs) (fun k => (x7.2.getD (x1.K.length - 1 - k) zX).xs) (k + 1) := by rw [leftQ, hix]
                      refine Ex.region (ExL.pures 1 rfl ?_)
                      refine ExL.free (by first | exact fr_add64 rfl rfl rfl (by omega) | exact fr_add rfl rfl rfl) rfl rfl rfl ?_
                      refine ExL.pures 1 rfl ?_
                      refine ExL.nil ?_
                      refine HandA.of (k + 1) (A24) (cA24) 7 [1, 2, 3, 4, 5, 6] ⟨rfl, agI hlq, rfl, trivial⟩ ⟨rfl, rfl, rfl, rfl, rfl, rfl, rfl, trivial⟩ (by rw [outQ_s hix, List.flatMap_append]; rfl) rfl (by omega) (by omega)
                    · refine ExL.pures 1 rfl ?_
                      refine ExL.nil ?_
                      refine Ex.cond_f rfl ?_
                      refine Ex.skip ?_
                      refine Ex.region (ExL.pures 1 rfl ?_)
                      refine ExL.free (by first | exact fr_add64 rfl rfl rfl (by omega) | exact fr_add rfl rfl rfl) rfl rfl rfl ?_
                      refine ExL.pures 1 rfl ?_
                      refine ExL.nil ?_
                      refine Hand.mk (j + 1) 6 [0, 1, 2, 3, 4, 5] ⟨rfl, rfl, rfl, trivial⟩ ⟨rfl, rfl, rfl, rfl, rfl, rfl, rfl, rfl, trivial⟩ (rfl) rfl (⟨by omega, all_snoc hall (by first | exact ok_n1 (by omega) | exact ok_n2 (by omega) (by assumption) | exact ok_n3 (by omega) (by omega) rfl | exact ok_0n (by omega) (by omega))⟩) (by omega)
                  · refine ExL.pures 13 rfl ?_
                    refine ExL.nil ?_
                    refine Ex.cond_f rfl ?_
                    refine Ex.skip ?_
                    refine Ex.region (ExL.pures 1 rfl ?_)
                    refine ExL.free (by first | exact fr_add64 rfl rfl rfl (by omega) | exact fr_add rfl rfl rfl) rfl rfl rfl ?_
                    refine ExL.pures 1 rfl ?_
                    refine ExL.nil ?_
                    refine Hand.mk (j + 1) 6 [0, 1, 2, 3, 4, 5] ⟨rfl, rfl, rfl, trivial⟩ ⟨rfl, rfl, rfl, rfl, rfl, rfl, rfl, rfl, trivial⟩ (rfl) rfl (⟨by omega, all_snoc hall (by first | exact ok_n1 (by omega) | exact ok_n2 (by omega) (by assumption) | exact ok_n3 (by omega) (by omega) rfl | exact ok_0n (by omega) (by omega))⟩) (by omega)
              · refine ExL.nil ?_
                refine Ex.cond_f rfl ?_
                refine Ex.skip ?_
                refine Ex.regSeq (ExL.pures 2 rfl ?_)
                refine ExL.free (fr_indexAddr (sz := 1) rfl rfl rfl rfl rfl rfl (by omega)) rfl rfl rfl ?_
                refine ExL.free (fr_load rfl rfl rfl rfl (cellE (r := (x7.2.getD (x1.K.length - 1 - k) zX)) (i := ↑k) (k) (Reads.row (i := 1) rfl) encX_len zX 0 rfl (by omega) (by rw [outE_len]; omega) (outE_at (by omega)) rfl)) rfl rfl rfl ?_
                refine ExL.pures 1 rfl ?_
                refine ExL.free (fr_indexAddrF (readsX (i := 2) rfl (k := (x1.K.length - 1 - k)) (by omega)) (eI_len .i64) rfl rfl rfl rfl rfl rfl (by omega)) rfl rfl rfl ?_
                refine ExL.free (fr_load rfl rfl rfl rfl (by first | exact cellN (readsX (i := 2) rfl (k := (x1.K.length - 1 - k)) (by omega)) (eI_len .i64) 0 0 rfl (by omega) rfl | exact cellF (readsX (i := 2) rfl (k := (x1.K.length - 1 - k)) (by omega)) (eI_len .i64) 0 0 rfl (by omega) rfl)) rfl rfl rfl ?_
                refine ExL.geq rfl rfl rfl rfl rfl rfl (fun h26 => ?_) (fun h26 => ?_)
                · refine ExL.pures 3 rfl ?_
                  refine ExL.free (fr_indexAddr (sz := 1) rfl rfl rfl rfl rfl rfl (by omega)) rfl rfl rfl ?_
                  refine ExL.free (fr_load rfl rfl rfl rfl (cellE (r := (x7.2.getD (x1.K.length - 1 - k) zX)) (i := ↑k) (k) (Reads.row (i := 1) rfl) encX_len zX 0 rfl (by omega) (by rw [outE_len]; omega) (outE_at (by omega)) rfl)) rfl rfl rfl ?_
                  refine ExL.pures 1 rfl ?_
                  refine ExL.free (fr_indexAddrF (readsX (i := 2) rfl (k := (x1.K.length - 1 - k)) (by omega)) (eI_len .i64) rfl rfl rfl rfl rfl rfl (by omega)) rfl rfl rfl ?_
                  refine ExL.free (fr_load rfl rfl rfl rfl (by first | exact cellN (readsX (i := 2) rfl (k := (x1.K.length - 1 - k)) (by omega)) (eI_len .i64) 0 0 rfl (by omega) rfl | exact cellF (readsX (i := 2) rfl (k := (x1.K.length - 1 - k)) (by omega)) (eI_len .i64) 0 0 rfl (by omega) rfl)) rfl rfl rfl ?_
                  refine ExL.pures 1 rfl ?_
                  refine ExL.free (by first | exact fr_add64 rfl rfl rfl (by omega) | exact fr_add rfl rfl rfl) rfl rfl rfl ?_
                  refine ExL.pures 1 rfl ?_
                  refine ExL.eql rfl rfl rfl rfl rfl rfl (fun h27 => ?_) (fun h27 => ?_)
                  · refine ExL.pures 1 rfl ?_
                    refine ExL.nil ?_
                    refine Ex.cond_t rfl ?_
                    refine Ex.regSeq (ExL.pures 4 rfl ?_)
                    refine ExL.free (fr_load rfl rfl rfl rfl (CellO.blk (i := 3) rfl rfl)) rfl rfl rfl ?_
                    refine ExL.pures 1 rfl ?_
                    refine ExL.free (fr_indexAddrR (sz := 1) 4 rfl rfl rfl rfl rfl rfl (by omega)) rfl rfl rfl ?_
                    refine ExL.free (fr_load rfl rfl rfl rfl (by first | exact cellN (Reads.row (i := 4) rfl) encX_len zX 0 rfl (by omega) rfl | exact cellF (Reads.row (i := 4) rfl) encX_len zX 0 rfl (by omega) rfl)) rfl rfl rfl ?_
                    refine ExL.pures 1 rfl ?_
                    refine ExL.free (fr_indexAddrF (readsX (i := 5) rfl (k := k) (by omega)) (eI_len .i64) rfl rfl rfl rfl rfl rfl (by omega)) rfl rfl rfl ?_
                    refine ExL.free (fr_load rfl rfl rfl rfl (by first | exact cellN (readsX (i := 5) rfl (k := k) (by omega)) (eI_len .i64) 0 0 rfl (by omega) rfl | exact cellF (readsX (i := 5) rfl (k := k) (by omega)) (eI_len .i64) 0 0 rfl (by omega) rfl)) rfl rfl rfl ?_
                    refine ExL.op rfl (op_buildSlice (sz := 1) rfl rfl rfl rfl rfl rfl rfl rfl (by decide) rfl rfl rfl (fun r28 => ?_))
                    refine ExL.op rfl (op_append (sz := 1) (bytes := 8) (i := 1) rfl rfl rfl rfl (Reads.row (i := 0) rfl) rfl (fun e => nomatch e) rfl rfl rfl rfl (by constructor <;> first | omega | (unfold maxLen; omega)) rfl rfl (fun A29 cA29 => ?_))
                    refine ExL.pures 1 rfl ?_
                    refine ExL.nil ?_
                    refine Ex.regSeq (ExL.pures 2 rfl ?_)
                    refine ExL.free (fr_indexAddr (sz := 1) rfl rfl rfl rfl rfl rfl (by omega)) rfl rfl rfl ?_
                    refine ExL.free (fr_load rfl rfl rfl rfl (cellE (r := (x7.2.getD (x1.K.length - 1 - k) zX)) (i := ↑k) (k) (Reads.row (i := 2) rfl) encX_len zX 0 rfl (by omega) (by rw [outE_len]; omega) (outE_at (by omega)) rfl)) rfl rfl rfl ?_
                    refine ExL.pures 1 rfl ?_
                    refine ExL.free (fr_indexAddrF (readsX (i := 3) rfl (k := (x1.K.length - 1 - k)) (by omega)) (eI_len .i64) rfl rfl rfl rfl rfl rfl (by omega)) rfl rfl rfl ?_
                    refine ExL.free (fr_load rfl rfl rfl rfl (by first | exact cellN (readsX (i := 3) rfl (k := (x1.K.length - 1 - k)) (by omega)) (eI_len .i64) 0 0 rfl (by omega) rfl | exact cellF (readsX (i := 3) rfl (k := (x1.K.length - 1 - k)) (by omega)) (eI_len .i64) 0 0 rfl (by omega) rfl)) rfl rfl rfl ?_
                    refine ExL.pures 1 rfl ?_
                    refine ExL.nil ?_
                    refine Ex.exit ?_
                    have hix := idx_eq hpk hall (ok_0y (lo := lo) (hi := hi) (us := us) (F := (fun k => (x1.K.getD k zX).xs)) (C := (fun k => (x7.2.getD (x1.K.length - 1 - k) zX).xs)) (k := k) (i := (idxP lo hi us (fun k => (x1.K.getD k zX).xs) (fun k => (x7.2.getD (x1.K.length - 1 - k) zX).xs) (k - 1))) (j := j) (by omega) (by omega) (by omega))
                    have hlq : (x7.2.getD (x1.K.length - 1 - k) zX).xs.getD j 0 = leftQ lo hi us (fun k => (x1.K.getD k zX).xs) (fun k => (x7.2.getD (x1.K.length - 1 - k) zX).xs) (k + 1) := by rw [leftQ, hix]
                    refine Ex.region (ExL.pures 1 rfl ?_)
                    refine ExL.free (by first | exact fr_add64 rfl rfl rfl (by omega) | exact fr_add rfl rfl rfl) rfl rfl rfl ?_
                    refine ExL.pures 1 rfl ?_
                    refine ExL.nil ?_
                    refine HandA.of (k + 1) (A29) (cA29) 7 [1, 2, 3, 4, 5, 6] ⟨rfl, agI hlq, rfl, trivial⟩ ⟨rfl, rfl, rfl, rfl, rfl, rfl, rfl, trivial⟩ (by rw [outQ_s hix, List.flatMap_append]; rfl) rfl (by omega) (by omega)
                  · refine ExL.pures 1 rfl ?_
                    refine ExL.nil ?_
                    refine Ex.cond_f rfl ?_
                    refine Ex.skip ?_
                    refine Ex.region (ExL.pures 1 rfl ?_)
                    refine ExL.free (by first | exact fr_add64 rfl rfl rfl (by omega) | exact fr_add rfl rfl rfl) rfl rfl rfl ?_
                    refine ExL.pures 1 rfl ?_
                    refine ExL.nil ?_
                    refine Hand.mk (j + 1) 6 [0, 1, 2, 3, 4, 5] ⟨rfl, rfl, rfl, trivial⟩ ⟨rfl, rfl, rfl, rfl, rfl, rfl, rfl, rfl, trivial⟩ (rfl) rfl (⟨by omega, all_snoc hall (by first | exact ok_n1 (by omega) | exact ok_n2 (by omega) (by assumption) | exact ok_n3 (by omega) (by omega) rfl | exact ok_0n (by omega) (by omega))⟩) (by omega)
                · refine ExL.pures 13 rfl ?_
                  refine ExL.nil ?_
                  refine Ex.cond_f rfl ?_
                  refine Ex.skip ?_
                  refine Ex.region (ExL.pures 1 rfl ?_)
                  refine ExL.free (by first | exact fr_add64 rfl rfl rfl (by omega) | exact fr_add rfl rfl rfl) rfl rfl rfl ?_
                  refine ExL.pures 1 rfl ?_
                  refine ExL.nil ?_
                  refine Hand.mk (j + 1) 6 [0, 1, 2, 3, 4, 5] ⟨rfl, rfl, rfl, trivial⟩ ⟨rfl, rfl, rfl, rfl, rfl, rfl, rfl, rfl, trivial⟩ (rfl) rfl (⟨by omega, all_snoc hall (by first | exact ok_n1 (by omega) | exact ok_n2 (by omega) (by assumption) | exact ok_n3 (by omega) (by omega) rfl | exact ok_0n (by omega) (by omega))⟩) (by omega)
            · refine ExL.nil ?_
              refine Ex.cond_f rfl ?_
              refine Ex.exit ?_
              exfalso; exact idx_no hpk hall (by first | omega | exact hj9)
          · refine ExL.nil ?_
            refine Ex.cond_f rfl ?_
            refine Ex.exit ?_
            obtain rfl : k = x1.K.length := (by omega)
            have hlk := lk_0 (k := x1.K.length) hc1 hx1 (by omega) hJl hR (by omega) hkl
            have hll : (likV s L lo hi us).1.length = x1.K.length := by rw [hlk]; exact outQ_len _ _ _ _ _ _
            refine Ex.regSeq (ExL.pures 5 rfl ?_)
            refine ExL.nil ?_
            refine Ex.ret ?_
            refine RetQ.mk (A, c) rfl (.tmp rfl (.tmp rfl (.tmp rfl .nil))) (t3 (by first | (rw [hll, hlk]; first | done | rfl) | (rw [hlk]; first | done | rfl) | (rw [hll]; first | done | rfl) | (rw [lk_c hcn, hcu]; first | done | rfl) | (rw [lk_c hc0]; first | done | rfl) | (rw [lk_6 hc1 hx1 (by omega) hJl hR (by omega)]; first | done | rfl)) (by first | (rw [hll, hlk]; first | done | rfl) | (rw [hlk]; first | done | rfl) | (rw [hll]; first | done | rfl) | (rw [lk_c hcn, hcu]; first | done | rfl) | (rw [lk_c hc0]; first | done | rfl) | (rw [lk_6 hc1 hx1 (by omega) hJl hR (by omega)]; first | done | rfl)) (by first | (rw [hll, hlk]; first | done | rfl) | (rw [hlk]; first | done | rfl) | (rw [hll]; first | done | rfl) | (rw [lk_c hcn, hcu]; first | done | rfl) | (rw [lk_c hc0]; first | done | rfl) | (rw [lk_6 hc1 hx1 (by omega) hJl hR (by omega)]; first | done | rfl))) [0] (by first | (rw [hll, hlk]; first | done | rfl) | (rw [hlk]; first | done | rfl) | (rw [hll]; first | done | rfl) | (rw [lk_c hcn, hcu]; first | done | rfl) | (rw [lk_c hc0]; first | done | rfl) | (rw [lk_6 hc1 hx1 (by omega) hJl hR (by omega)]; first | done | rfl)) rfl (trivial)
theorem c_sLik (s : List Int) (hu : Nums 255 s) (As : Option Addr) (cs : Nat) (hls : s.length ≤ maxLen) (L : List VPh) (hLk : ∀ k, k < L.length → OkPh (L.getD k zPh)) (bl cL : Nat) (hlL : L.length ≤ maxLen) (lo hi : Int) (us : Int) : Ret Try.prog 39 [.slice As s.length cs, .slice (some ⟨bl, 0, none⟩) L.length cL, .int .i64 lo, .int .i64 hi, .int .i64 us] (fun w => Rd w As (s.flatMap (eI .u8)) ∧ Rd w (some ⟨bl, 0, none⟩) (L.flatMap encPh)) (fun x : Option Addr × Nat => .tuple #[.slice x.1 (likV s L lo hi us).1.length x.2, .int .i64 (likV s L lo hi us).2.1, .int .i64 (likV s L lo hi us).2.2]) (fun x => [.row (.slice x.1 (likV s L lo hi us).1.length x.2) 2 1 (likV s L lo hi us).1.length ((likV s L lo hi us).1.flatMap (eI .i64))]) (fun x => True) := by
  by_cases h : codeF s L lo hi lo = 0
  · exact c_sLik_t s hu As cs hls L hLk bl cL hlL lo hi us h
  · exact c_sLik_f s hu As cs hls L hLk bl cL hlL lo hi us h
end Go.Proofs.Ytplljnddhkleaaa
