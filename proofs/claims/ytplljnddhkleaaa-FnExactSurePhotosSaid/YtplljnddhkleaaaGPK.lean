/- What these functions of the program hand back, each proved by walking its operations. -/
import Derived.Test.YtplljnddhkleaaaProg
import Derived.Test.YtplljnddhkleaaaFw
import Derived.Test.YtplljnddhkleaaaM43
import Derived.Test.YtplljnddhkleaaaGPJ
set_option linter.unusedVariables false
set_option linter.unusedSimpArgs false
set_option maxRecDepth 4000
namespace Go.Proofs.Ytplljnddhkleaaa
open Go Go.Sx Go.RowKit Go.W Go.Proofs
attribute [local irreducible] Ex ExL ExD Op1 Free RetQ MutQ Reads CellO SegO LoadsAs
theorem e_32 : Enters Try.prog 32 := Enters.of Try.func32 rfl
theorem c_iWays_f (s : List Int) (hu : Nums 255 s) (As : Option Addr) (cs : Nat) (hls : s.length ≤ maxLen) (L : List VPh) (hLk : ∀ k, k < L.length → OkPh (L.getD k zPh)) (bl cL : Nat) (hlL : L.length ≤ maxLen) (lo hi : Int) (hc0 : codeF s L lo hi lo ≠ 0) : Ret Try.prog 32 [.slice As s.length cs, .slice (some ⟨bl, 0, none⟩) L.length cL, .int .i64 lo, .int .i64 hi] (fun w => Rd w As (s.flatMap (eI .u8)) ∧ Rd w (some ⟨bl, 0, none⟩) (L.flatMap encPh)) (fun x : Unit => .tuple #[.int .i64 (waysV s L lo hi).1, .int .i64 (waysV s L lo hi).2]) (fun x => []) (fun x => True) := by
  refine Ret.of e_32 Try.func32 rfl Try.ntmps32 rfl rfl (fun w hpre => ?_)
  have hs := hpre.1.base
  have hLr := hpre.2.base
  have hm0 : maxLen = 9223372036854775807 := rfl
  refine Ex.regSeq (ExL.pures 2 rfl ?_)
  refine ExL.nil ?_
  refine Ex.regSeq (ExL.pures 5 rfl ?_)
  refine ExL.op rfl (op_ret rfl rfl rfl (c_filmOf_f s (by assumption) _ _ (by omega) L (by assumption) _ _ (by omega) lo hi lo hc0) (fun w hw => ⟨Reads.get (Reads.old hs) w hw, Reads.get (Reads.old hLr) w hw⟩) rfl rfl (fun x1 hx1 => ?_))
  refine ExL.pures 5 rfl ?_
  refine ExL.nil ?_
  refine Ex.seq ?_
  refine Ex.regSeq (ExL.pures 1 rfl ?_)
  refine ExL.neq rfl rfl rfl rfl rfl rfl (fun h2 => ?_) (fun h2 => ?_)
  · refine ExL.nil ?_
    refine Ex.cond_t rfl ?_
    refine Ex.regSeq (ExL.pures 3 rfl ?_)
    refine ExL.nil ?_
    refine Ex.ret ?_
    refine RetQ.mk () rfl (.tmp rfl (.tmp rfl .nil)) (t2 (vI (by first | (rw [wv_c hc0]; first | done | rfl))) (vI (by first | (rw [wv_c hc0]; first | done | rfl)))) [] (rfl) rfl (trivial)
  · refine ExL.nil ?_
    refine Ex.cond_f rfl ?_
    refine Ex.skip ?_
    exfalso; omega
theorem c_iWays_t (s : List Int) (hu : Nums 255 s) (As : Option Addr) (cs : Nat) (hls : s.length ≤ maxLen) (L : List VPh) (hLk : ∀ k, k < L.length → OkPh (L.getD k zPh)) (bl cL : Nat) (hlL : L.length ≤ maxLen) (lo hi : Int) (hc0 : codeF s L lo hi lo = 0) : Ret Try.prog 32 [.slice As s.length cs, .slice (some ⟨bl, 0, none⟩) L.length cL, .int .i64 lo, .int .i64 hi] (fun w => Rd w As (s.flatMap (eI .u8)) ∧ Rd w (some ⟨bl, 0, none⟩) (L.flatMap encPh)) (fun x : Unit => .tuple #[.int .i64 (waysV s L lo hi).1, .int .i64 (waysV s L lo hi).2]) (fun x => []) (fun x => True) := by
  refine Ret.of e_32 Try.func32 rfl Try.ntmps32 rfl rfl (fun w hpre => ?_)
  have hs := hpre.1.base
  have hLr := hpre.2.base
  have hm0 : maxLen = 9223372036854775807 := rfl
  have hLo : ∀ p ∈ L, OkPh p := fun p hp => by obtain ⟨i, hi, rfl⟩ := List.getElem_of_mem hp; have := hLk i hi; simpa [List.getD, hi] using this
  have hF := film hLo hc0
  have hl0 := hF.l0
  have hlh := hF.le
  have hh1 := hF.h1
  have hS := hF.st
  have hv := hF.vs
  have hn1 := hF.len
  refine Ex.regSeq (ExL.pures 2 rfl ?_)
  refine ExL.nil ?_
  refine Ex.regSeq (ExL.pures 5 rfl ?_)
  refine ExL.op rfl (op_ret rfl rfl rfl (c_filmOf_t s (by assumption) _ _ (by omega) L (by assumption) _ _ (by omega) lo hi lo hc0) (fun w hw => ⟨Reads.get (Reads.old hs) w hw, Reads.get (Reads.old hLr) w hw⟩) rfl rfl (fun x1 hx1 => ?_))
  have hfk := fk hF hx1
  have hkl := hfk.len
  have hfv := hfk.v
  have hfl := hfk.vl
  refine ExL.pures 5 rfl ?_
  refine ExL.nil ?_
  refine Ex.seq ?_
  refine Ex.regSeq (ExL.pures 1 rfl ?_)
  refine ExL.neq rfl rfl rfl rfl rfl rfl (fun h2 => ?_) (fun h2 => ?_)
  · refine ExL.nil ?_
    refine Ex.cond_t rfl ?_
    exfalso; omega
  · refine ExL.nil ?_
    refine Ex.cond_f rfl ?_
    refine Ex.skip ?_
    refine Ex.regSeq (ExL.pures 0 rfl ?_)
    refine ExL.op rfl (op_buildSlice (sz := 1) rfl rfl rfl rfl rfl rfl rfl rfl (by decide) rfl rfl rfl (fun r3 => ?_))
    refine ExL.pures 2 rfl ?_
    refine ExL.nil ?_
    refine Ex.seq ?_
    refine Ex.regSeq (ExL.pures 3 rfl ?_)
    refine ExL.free (fr_load rfl rfl rfl rfl (CellO.blk (i := 1) rfl rfl)) rfl rfl rfl ?_
    refine ExL.pures 2 rfl ?_
    refine ExL.nil ?_
    refine Ex.block ?_
    refine Ex.loopA (fun k A c => [(13, .slice A ((befL lo hi (fun k => (x1.K.getD k zX).xs) k)).length c), (12, .int .i64 (totW lo hi (fun k => (x1.K.getD k zX).xs) k)), (39, .int .i64 k)]) (fun k A c => [.row (.slice A ((befL lo hi (fun k => (x1.K.getD k zX).xs) k)).length c) 2 1 ((befL lo hi (fun k => (x1.K.getD k zX).xs) k)).length (((befL lo hi (fun k => (x1.K.getD k zX).xs) k)).flatMap (eI .i64))]) (fun k => k ≤ x1.K.length ∧ ∀ i, i < k → wOver lo hi (fun k => (x1.K.getD k zX).xs) i = false) (fun k => x1.K.length - k) 0 ((some ⟨r3, 0, none⟩)) (0) [(10, _), (37, _), (38, _)] [_, _, _] 4 [0, 1, 2, 3] ⟨rfl, rfl, rfl, trivial⟩ ⟨rfl, rfl, rfl, trivial⟩ (rfl) rfl ⟨Nat.zero_le _, fun i hi => by omega⟩ (fun k A c hI => ?_)
    have hI : k ≤ x1.K.length ∧ ∀ i, i < k → wOver lo hi (fun k => (x1.K.getD k zX).xs) i = false := hI
    obtain ⟨hk, hall⟩ := hI
    refine Ex.regSeq (ExL.pures 0 rfl ?_)
    refine ExL.lss rfl rfl rfl rfl rfl rfl (fun h4 => ?_) (fun h4 => ?_)
    · refine ExL.nil ?_
      refine Ex.seq ?_
      refine Ex.cond_t rfl ?_
      refine Ex.skip ?_
      refine Ex.seq ?_
      refine Ex.block ?_
      have hkL : k < L.length := by omega
      have hvl := hfl k hkL
      have hvl1 := hfl (k - 1) (by omega)
      refine Ex.regSeq (ExL.pures 1 rfl ?_)
      refine ExL.free (fr_indexAddrR (sz := 1) 2 rfl rfl rfl rfl rfl rfl (by omega)) rfl rfl rfl ?_
      refine ExL.free (fr_load rfl rfl rfl rfl (by first | exact cellN (Reads.row (i := 2) rfl) encX_len zX 0 rfl (by omega) rfl | exact cellF (Reads.row (i := 2) rfl) encX_len zX 0 rfl (by omega) rfl)) rfl rfl rfl ?_
      refine ExL.pures 2 rfl ?_
      refine ExL.nil ?_
      refine Ex.regSeq (ExL.pures 2 rfl ?_)
      refine ExL.op rfl (op_makeSlice (sz := 8) rfl rfl rfl rfl rfl rfl rfl rfl (⟨by omega, by unfold maxLen; omega⟩) rfl rfl (fun r5 => ?_))
      refine ExL.pures 1 rfl ?_
      refine ExL.nil ?_
      refine Ex.regSeq (ExL.pures 1 rfl ?_)
      refine ExL.nil ?_
      refine Ex.seq ?_
      refine Ex.regSeq (ExL.pures 3 rfl ?_)
      refine ExL.nil ?_
      refine Ex.block ?_
      refine Ex.loopK (X := Nat) (fun i => [(12, .int .i64 (sumT (wayL lo hi (fun k => (x1.K.getD k zX).xs) k) i)), (49, .int .i64 i)]) (fun i => [.row (.slice (some ⟨r5, 0, none⟩) (x1.K.getD k zX).xs.length (x1.K.getD k zX).xs.length) 2 1 (x1.K.getD k zX).xs.length ((Sx.part 0 (wayL lo hi (fun k => (x1.K.getD k zX).xs) k) i).flatMap (eI .i64))]) (fun i => i ≤ (x1.K.getD k zX).xs.length ∧ sumT (wayL lo hi (fun k => (x1.K.getD k zX).xs) k) i ≤ 1000000000000000) (fun i => (x1.K.getD k zX).xs.length - i) 0 [(10, _), (13, _), (14, _), (16, _), (37, _), (38, _), (39, _), (47, _), (48, _)] [_, _, _, _] 5 [0, 1, 2, 3, 4] ⟨rfl, rfl, trivial⟩ ⟨rfl, rfl, rfl, rfl, rfl, rfl, rfl, rfl, rfl, trivial⟩ (pkR (zroW rfl)) rfl ⟨Nat.zero_le _, by simp [sumT]⟩ (fun i hI => ?_)
      have hI : i ≤ (x1.K.getD k zX).xs.length ∧ sumT (wayL lo hi (fun k => (x1.K.getD k zX).xs) k) i ≤ 1000000000000000 := hI
      have hiN := hI.1
      have hwb := way_bd (lo := lo) (hi := hi) (F := (fun k => (x1.K.getD k zX).xs)) hall i
      have hsum := hI.2
      refine Ex.regSeq (ExL.pures 0 rfl ?_)
      refine ExL.lss rfl rfl rfl rfl rfl rfl (fun h6 => ?_) (fun h6 => ?_)
      · refine ExL.nil ?_
        refine Ex.seq ?_
        refine Ex.cond_t rfl ?_
        refine Ex.skip ?_
        refine Ex.seq ?_
        refine Ex.block ?_
        have hii : i < (x1.K.getD k zX).xs.length := by omega
        have hvi := hfv k i hkL
        refine Ex.regSeq (ExL.pures 1 rfl ?_)
        refine ExL.free (fr_indexAddrF (readsX (i := 4) rfl (k := k) (by omega)) (eI_len .i64) rfl rfl rfl rfl rfl rfl (by omega)) rfl rfl rfl ?_
        refine ExL.free (fr_load rfl rfl rfl rfl (by first | exact cellN (readsX (i := 4) rfl (k := k) (by omega)) (eI_len .i64) 0 0 rfl (by omega) rfl | exact cellF (readsX (i := 4) rfl (k := k) (by omega)) (eI_len .i64) 0 0 rfl (by omega) rfl)) rfl rfl rfl ?_
        refine ExL.pures 2 rfl ?_
        refine ExL.nil ?_
        refine Ex.seq ?_
        refine Ex.regSeq (ExL.pures 1 rfl ?_)
        refine ExL.eql rfl rfl rfl rfl rfl rfl (fun h7 => ?_) (fun h7 => ?_)
        · refine ExL.nil ?_
          refine Ex.cond_t rfl ?_
          refine Ex.region (ExL.pures 2 rfl ?_)
          refine ExL.free (fr_indexAddr (sz := 1) rfl rfl rfl rfl rfl rfl (by omega)) rfl rfl rfl ?_
          refine ExL.op rfl (op_storeRowF (i := 0) rfl rfl rfl rfl rfl rfl rfl rfl (room (eI_len .i64) (k := i) (by rw [partW_len (by omega)]; omega) (by simp) rfl) (List.cons_ne_nil _ _) rfl (rowW_0y hii (by omega) (by simp) rfl) ?_)
          refine ExL.nil ?_
          refine Ex.seq ?_
          refine Ex.regSeq (ExL.pures 3 rfl ?_)
          refine ExL.nil ?_
          refine Ex.block ?_
          refine Ex.loopK (X := Nat) (fun j => [(61, .int .i64 j)]) (fun j => [.row (.slice (some ⟨r5, 0, none⟩) (x1.K.getD k zX).xs.length (x1.K.getD k zX).xs.length) 2 1 (x1.K.getD k zX).xs.length ((rowW lo hi (fun k => (x1.K.getD k zX).xs) k i j).flatMap (eI .i64))]) (fun j => j ≤ (befL lo hi (fun k => (x1.K.getD k zX).xs) k).length) (fun j => (befL lo hi (fun k => (x1.K.getD k zX).xs) k).length - j) 0 [(10, _), (12, _), (13, _), (14, _), (16, _), (17, _), (18, _), (37, _), (38, _), (39, _), (47, _), (48, _), (49, _), (59, _), (60, _)] [_, _, _, _] 5 [0, 1, 2, 3, 4] ⟨rfl, trivial⟩ ⟨rfl, rfl, rfl, rfl, rfl, rfl, rfl, rfl, rfl, rfl, rfl, rfl, rfl, rfl, rfl, trivial⟩ (by first | rfl | exact pkR (congrArg (fun z => List.flatMap (eI .i64) z) (rowW_0n hii (by omega)))) rfl (Nat.zero_le _) (fun j hI => ?_)
          have hI : j ≤ (befL lo hi (fun k => (x1.K.getD k zX).xs) k).length := hI
          refine Ex.regSeq (ExL.pures 0 rfl ?_)
          refine ExL.lss rfl rfl rfl rfl rfl rfl (fun h8 => ?_) (fun h8 => ?_)
          · refine ExL.nil ?_
            refine Ex.seq ?_
            refine Ex.cond_t rfl ?_
            refine Ex.skip ?_
            refine Ex.seq ?_
            refine Ex.block ?_
            have hjb : j < (befL lo hi (fun k => (x1.K.getD k zX).xs) k).length := by omega
            have hk0 := bef_pos hjb
            have hbl := bef_len (lo := lo) (hi := hi) (F := (fun k => (x1.K.getD k zX).xs)) hk0
            have hvj := hfv (k - 1) j (by omega)
            have hcb := curW_bd (i := i) (j := j) hall (fun _ => by omega)
            have hbb := bef_bd hall j
            refine Ex.regSeq (ExL.pures 1 rfl ?_)
            refine ExL.free (fr_indexAddrR (sz := 1) 1 rfl rfl rfl rfl rfl rfl (by omega)) rfl rfl rfl ?_
            refine ExL.free (fr_load rfl rfl rfl rfl (by first | exact cellN (Reads.row (i := 1) rfl) (eI_len .i64) 0 0 rfl (by omega) rfl | exact cellF (Reads.row (i := 1) rfl) (eI_len .i64) 0 0 rfl (by omega) rfl)) rfl rfl rfl ?_
            refine ExL.pures 2 rfl ?_
            refine ExL.nil ?_
            refine Ex.regSeq (ExL.pures 4 rfl ?_)
            refine ExL.free (fr_load rfl rfl rfl rfl (CellO.blk (i := 2) rfl rfl)) rfl rfl rfl ?_
            refine ExL.pures 1 rfl ?_
            refine ExL.free (by first | exact fr_sub64 rfl rfl rfl (by omega) | exact fr_sub rfl rfl rfl) rfl rfl rfl ?_
            refine ExL.free (fr_indexAddrR (sz := 1) 3 rfl rfl rfl rfl rfl rfl (by omega)) rfl rfl rfl ?_
            refine ExL.free (fr_load rfl rfl rfl rfl (cellJ (i := (↑k - 1)) ((k - 1)) (Reads.row (i := 3) rfl) encX_len zX 0 rfl (by omega) (by omega) rfl)) rfl rfl rfl ?_
            refine ExL.pures 1 rfl ?_
            refine ExL.free (fr_indexAddrF (readsX (i := 4) rfl (k := (k - 1)) (by omega)) (eI_len .i64) rfl rfl rfl rfl rfl rfl (by omega)) rfl rfl rfl ?_
            refine ExL.free (fr_load rfl rfl rfl rfl (by first | exact cellN (readsX (i := 4) rfl (k := (k - 1)) (by omega)) (eI_len .i64) 0 0 rfl (by omega) rfl | exact cellF (readsX (i := 4) rfl (k := (k - 1)) (by omega)) (eI_len .i64) 0 0 rfl (by omega) rfl)) rfl rfl rfl ?_
            refine ExL.pures 1 rfl ?_
            refine ExL.op rfl (op_ret rfl rfl rfl (c_goes _ lo hi (by omega) _ ((x1.K.getD (k - 1) zX).xs.getD j 0) ((x1.K.getD k zX).xs.getD i 0) (by omega) (by omega)) (Reads.get (Reads.blk (i := 2) rfl)) rfl rfl (fun x9 hx9 => ?_))
            refine ExL.nil ?_
            refine Ex.cond rfl (fun hb10 => ?_) (fun hb10 => ?_)
            · refine Ex.region (ExL.pures 2 rfl ?_)
              refine ExL.free (fr_indexAddr (sz := 1) rfl rfl rfl rfl rfl rfl (by omega)) rfl rfl rfl ?_
              refine ExL.free (fr_load rfl rfl rfl rfl (cellW (v := .int .i64 (curW lo hi (fun k => (x1.K.getD k zX).xs) k i j)) (i := ↑i) i (Reads.row (i := 0) rfl) (eI_len .i64) 0 0 rfl (by omega) (by rw [rowW_len (by omega)]; omega) (rowW_at hii) rfl)) rfl rfl rfl ?_
              refine ExL.pures 1 rfl ?_
              refine ExL.free (by first | exact fr_add64 rfl rfl rfl (by omega) | exact fr_add rfl rfl rfl) rfl rfl rfl ?_
              refine ExL.free (fr_indexAddr (sz := 1) rfl rfl rfl rfl rfl rfl (by omega)) rfl rfl rfl ?_
              refine ExL.op rfl (op_storeRowF (i := 0) rfl rfl rfl rfl rfl rfl rfl rfl (room (eI_len .i64) (k := i) (by rw [rowW_len (by omega)]; omega) (by simp) rfl) (List.cons_ne_nil _ _) rfl (rowW_s hii (by simp) (congrArg (eI .i64) (cw_y hk0 (by assumption)))) ?_)
              refine ExL.nil ?_
              refine Ex.region (ExL.pures 0 rfl ?_)
              refine ExL.free (by first | exact fr_add64 rfl rfl rfl (by omega) | exact fr_add rfl rfl rfl) rfl rfl rfl ?_
              refine ExL.pures 1 rfl ?_
              refine ExL.nil ?_
              refine Hand.mk (j + 1) 5 [0, 1, 2, 3, 4] ⟨rfl, trivial⟩ ⟨rfl, rfl, rfl, rfl, rfl, rfl, rfl, rfl, rfl, rfl, rfl, rfl, rfl, rfl, rfl, trivial⟩ (by first | rfl | exact pkR (congrArg (fun z => List.flatMap (eI .i64) z) (cw_n hk0 (by assumption)))) rfl (by omega) (by omega)
            · refine Ex.skip ?_
              refine Ex.region (ExL.pures 0 rfl ?_)
              refine ExL.free (by first | exact fr_add64 rfl rfl rfl (by omega) | exact fr_add rfl rfl rfl) rfl rfl rfl ?_
              refine ExL.pures 1 rfl ?_
              refine ExL.nil ?_
              refine Hand.mk (j + 1) 5 [0, 1, 2, 3, 4] ⟨rfl, trivial⟩ ⟨rfl, rfl, rfl, rfl, rfl, rfl, rfl, rfl, rfl, rfl, rfl, rfl, rfl, rfl, rfl, trivial⟩ (by first | rfl | exact pkR (congrArg (fun z => List.flatMap (eI .i64) z) (cw_n hk0 (by assumption)))) rfl (by omega) (by omega)
          · refine ExL.nil ?_
            refine Ex.seq ?_
            refine Ex.cond_f rfl ?_
            refine Ex.exit ?_
            rw [rowW_fin hii (by omega)]
            refine Ex.regSeq (ExL.pures 3 rfl ?_)
            refine ExL.free (fr_indexAddr (sz := 1) rfl rfl rfl rfl rfl rfl (by omega)) rfl rfl rfl ?_
            refine ExL.free (fr_load rfl rfl rfl rfl (cellW (v := .int .i64 ((wayL lo hi (fun k => (x1.K.getD k zX).xs) k).getD i 0)) (i := ↑i) i (Reads.row (i := 0) rfl) (eI_len .i64) 0 0 rfl (by omega) (by rw [partW_len (by omega)]; omega) (partW_at hii) rfl)) rfl rfl rfl ?_
            refine ExL.free (by first | exact fr_add64 rfl rfl rfl (by omega) | exact fr_add rfl rfl rfl) rfl rfl rfl ?_
            refine ExL.pures 1 rfl ?_
            refine ExL.nil ?_
            refine Ex.regSeq (ExL.pures 1 rfl ?_)
            refine ExL.gtr rfl rfl rfl rfl rfl rfl (fun h11 => ?_) (fun h11 => ?_)
            · refine ExL.nil ?_
              refine Ex.cond_t rfl ?_
              refine Ex.regSeq (ExL.pures 2 rfl ?_)
              refine ExL.nil ?_
              refine Ex.ret ?_
              refine RetQ.mk () rfl (.tmp rfl (.tmp rfl .nil)) (t2 (vI (by first | (rw [wvk_3 (k := k) (i := i + 1) hx1 hc0 (by omega) (by omega) (by rw [sumT]; omega)]; first | done | rfl) | (rw [wvk_0 (k := k) hx1 hc0 (by omega) (by omega) hall]; first | done | rfl))) (vI (by first | (rw [wvk_3 (k := k) (i := i + 1) hx1 hc0 (by omega) (by omega) (by rw [sumT]; omega)]; first | done | rfl) | (rw [wvk_0 (k := k) hx1 hc0 (by omega) (by omega) hall]; first | done | rfl)))) [] (rfl) rfl (trivial)
            · refine ExL.nil ?_
              refine Ex.cond_f rfl ?_
              refine Ex.skip ?_
              refine Ex.region (ExL.pures 0 rfl ?_)
              refine ExL.free (by first | exact fr_add64 rfl rfl rfl (by omega) | exact fr_add rfl rfl rfl) rfl rfl rfl ?_
              refine ExL.pures 1 rfl ?_
              refine ExL.nil ?_
              refine Hand.mk (i + 1) 5 [0, 1, 2, 3, 4] ⟨rfl, rfl, trivial⟩ ⟨rfl, rfl, rfl, rfl, rfl, rfl, rfl, rfl, rfl, trivial⟩ (rfl) rfl (⟨by omega, by rw [sumT]; omega⟩) (by omega)
        · refine ExL.nil ?_
          refine Ex.cond_f rfl ?_
          refine Ex.skip ?_
          refine Ex.seq ?_
          refine Ex.regSeq (ExL.pures 3 rfl ?_)
          refine ExL.nil ?_
          refine Ex.block ?_
          refine Ex.loopK (X := Nat) (fun j => [(61, .int .i64 j)]) (fun j => [.row (.slice (some ⟨r5, 0, none⟩) (x1.K.getD k zX).xs.length (x1.K.getD k zX).xs.length) 2 1 (x1.K.getD k zX).xs.length ((rowW lo hi (fun k => (x1.K.getD k zX).xs) k i j).flatMap (eI .i64))]) (fun j => j ≤ (befL lo hi (fun k => (x1.K.getD k zX).xs) k).length) (fun j => (befL lo hi (fun k => (x1.K.getD k zX).xs) k).length - j) 0 [(10, _), (12, _), (13, _), (14, _), (16, _), (17, _), (18, _), (37, _), (38, _), (39, _), (47, _), (48, _), (49, _), (59, _), (60, _)] [_, _, _, _] 5 [0, 1, 2, 3, 4] ⟨rfl, trivial⟩ ⟨rfl, rfl, rfl, rfl, rfl, rfl, rfl, rfl, rfl, rfl, rfl, rfl, rfl, rfl, rfl, trivial⟩ (by first | rfl | exact pkR (congrArg (fun z => List.flatMap (eI .i64) z) (rowW_0n hii (by omega)))) rfl (Nat.zero_le _) (fun j hI => ?_)
          have hI : j ≤ (befL lo hi (fun k => (x1.K.getD k zX).xs) k).length := hI
          refine Ex.regSeq (ExL.pures 0 rfl ?_)
          refine ExL.lss rfl rfl rfl rfl rfl rfl (fun h12 => ?_) (fun h12 => ?_)
          · refine ExL.nil ?_
            refine Ex.seq ?_
            refine Ex.cond_t rfl ?_
            refine Ex.skip ?_
            refine Ex.seq ?_
            refine Ex.block ?_
            have hjb : j < (befL lo hi (fun k => (x1.K.getD k zX).xs) k).length := by omega
            have hk0 := bef_pos hjb
            have hbl := bef_len (lo := lo) (hi := hi) (F := (fun k => (x1.K.getD k zX).xs)) hk0
            have hvj := hfv (k - 1) j (by omega)
            have hcb := curW_bd (i := i) (j := j) hall (fun _ => by omega)
            have hbb := bef_bd hall j
            refine Ex.regSeq (ExL.pures 1 rfl ?_)
            refine ExL.free (fr_indexAddrR (sz := 1) 1 rfl rfl rfl rfl rfl rfl (by omega)) rfl rfl rfl ?_
            refine ExL.free (fr_load rfl rfl rfl rfl (by first | exact cellN (Reads.row (i := 1) rfl) (eI_len .i64) 0 0 rfl (by omega) rfl | exact cellF (Reads.row (i := 1) rfl) (eI_len .i64) 0 0 rfl (by omega) rfl)) rfl rfl rfl ?_
            refine ExL.pures 2 rfl ?_
            refine ExL.nil ?_
            refine Ex.regSeq (ExL.pures 4 rfl ?_)
            refine ExL.free (fr_load rfl rfl rfl rfl (CellO.blk (i := 2) rfl rfl)) rfl rfl rfl ?_
            refine ExL.pures 1 rfl ?_
            refine ExL.free (by first | exact fr_sub64 rfl rfl rfl (by omega) | exact fr_sub rfl rfl rfl) rfl rfl rfl ?_
            refine ExL.free (fr_indexAddrR (sz := 1) 3 rfl rfl rfl rfl rfl rfl (by omega)) rfl rfl rfl ?_
            refine ExL.free (fr_load rfl rfl rfl rfl (cellJ (i := (↑k - 1)) ((k - 1)) (Reads.row (i := 3) rfl) encX_len zX 0 rfl (by omega) (by omega) rfl)) rfl rfl rfl ?_
            refine ExL.pures 1 rfl ?_
            refine ExL.free (fr_indexAddrF (readsX (i := 4) rfl (k := (k - 1)) (by omega)) (eI_len .i64) rfl rfl rfl rfl rfl rfl (by omega)) rfl rfl rfl ?_
            refine ExL.free (fr_load rfl rfl rfl rfl (by first | exact cellN (readsX (i := 4) rfl (k := (k - 1)) (by omega)) (eI_len .i64) 0 0 rfl (by omega) rfl | exact cellF (readsX (i := 4) rfl (k := (k - 1)) (by omega)) (eI_len .i64) 0 0 rfl (by omega) rfl)) rfl rfl rfl ?_
            refine ExL.pures 1 rfl ?_
            refine ExL.op rfl (op_ret rfl rfl rfl (c_goes _ lo hi (by omega) _ ((x1.K.getD (k - 1) zX).xs.getD j 0) ((x1.K.getD k zX).xs.getD i 0) (by omega) (by omega)) (Reads.get (Reads.blk (i := 2) rfl)) rfl rfl (fun x13 hx13 => ?_))
            refine ExL.nil ?_
            refine Ex.cond rfl (fun hb14 => ?_) (fun hb14 => ?_)
            · refine Ex.region (ExL.pures 2 rfl ?_)
              refine ExL.free (fr_indexAddr (sz := 1) rfl rfl rfl rfl rfl rfl (by omega)) rfl rfl rfl ?_
              refine ExL.free (fr_load rfl rfl rfl rfl (cellW (v := .int .i64 (curW lo hi (fun k => (x1.K.getD k zX).xs) k i j)) (i := ↑i) i (Reads.row (i := 0) rfl) (eI_len .i64) 0 0 rfl (by omega) (by rw [rowW_len (by omega)]; omega) (rowW_at hii) rfl)) rfl rfl rfl ?_
              refine ExL.pures 1 rfl ?_
              refine ExL.free (by first | exact fr_add64 rfl rfl rfl (by omega) | exact fr_add rfl rfl rfl) rfl rfl rfl ?_
              refine ExL.free (fr_indexAddr (sz := 1) rfl rfl rfl rfl rfl rfl (by omega)) rfl rfl rfl ?_
              refine ExL.op rfl (op_storeRowF (i := 0) rfl rfl rfl rfl rfl rfl rfl rfl (room (eI_len .i64) (k := i) (by rw [rowW_len (by omega)]; omega) (by simp) rfl) (List.cons_ne_nil _ _) rfl (rowW_s hii (by simp) (congrArg (eI .i64) (cw_y hk0 (by assumption)))) ?_)
              refine ExL.nil ?_
              refine Ex.region (ExL.pures 0 rfl ?_)
              refine ExL.free (by first | exact fr_add64 rfl rfl rfl (by omega) | exact fr_add rfl rfl rfl) rfl rfl rfl ?_
              refine ExL.pures 1 rfl ?_
              refine ExL.nil ?_
              refine Hand.mk (j + 1) 5 [0, 1, 2, 3, 4] ⟨rfl, trivial⟩ ⟨rfl, rfl, rfl, rfl, rfl, rfl, rfl, rfl, rfl, rfl, rfl, rfl, rfl, rfl, rfl, trivial⟩ (by first | rfl | exact pkR (congrArg (fun z => List.flatMap (eI .i64) z) (cw_n hk0 (by assumption)))) rfl (by omega) (by omega)
            · refine Ex.skip ?_
              refine Ex.region (ExL.pures 0 rfl ?_)
              refine ExL.free (by first | exact fr_add64 rfl rfl rfl (by omega) | exact fr_add rfl rfl rfl) rfl rfl rfl ?_
              refine ExL.pures 1 rfl ?_
              refine ExL.nil ?_
              refine Hand.mk (j + 1) 5 [0, 1, 2, 3, 4] ⟨rfl, trivial⟩ ⟨rfl, rfl, rfl, rfl, rfl, rfl, rfl, rfl, rfl, rfl, rfl, rfl, rfl, rfl, rfl, trivial⟩ (by first | rfl | exact pkR (congrArg (fun z => List.flatMap (eI .i64) z) (cw_n hk0 (by assumption)))) rfl (by omega) (by omega)
          · refine ExL.nil ?_
            refine Ex.seq ?_
            refine Ex.cond_f rfl ?_
            refine Ex.exit ?_
            rw [rowW_fin hii (by omega)]
            refine Ex.regSeq (ExL.pures 3 rfl ?_)
            refine ExL.free (fr_indexAddr (sz := 1) rfl rfl rfl rfl rfl rfl (by omega)) rfl rfl rfl ?_
            refine ExL.free (fr_load rfl rfl rfl rfl (cellW (v := .int .i64 ((wayL lo hi (fun k => (x1.K.getD k zX).xs) k).getD i 0)) (i := ↑i) i (Reads.row (i := 0) rfl) (eI_len .i64) 0 0 rfl (by omega) (by rw [partW_len (by omega)]; omega) (partW_at hii) rfl)) rfl rfl rfl ?_
            refine ExL.free (by first | exact fr_add64 rfl rfl rfl (by omega) | exact fr_add rfl rfl rfl) rfl rfl rfl ?_
            refine ExL.pures 1 rfl ?_
            refine ExL.nil ?_
            refine Ex.regSeq (ExL.pures 1 rfl ?_)
            refine ExL.gtr rfl rfl rfl rfl rfl rfl (fun h15 => ?_) (fun h15 => ?_)
            · refine ExL.nil ?_
              refine Ex.cond_t rfl ?_
              refine Ex.regSeq (ExL.pures 2 rfl ?_)
              refine ExL.nil ?_
              refine Ex.ret ?_
              refine RetQ.mk () rfl (.tmp rfl (.tmp rfl .nil)) (t2 (vI (by first | (rw [wvk_3 (k := k) (i := i + 1) hx1 hc0 (by omega) (by omega) (by rw [sumT]; omega)]; first | done | rfl) | (rw [wvk_0 (k := k) hx1 hc0 (by omega) (by omega) hall]; first | done | rfl))) (vI (by first | (rw [wvk_3 (k := k) (i := i + 1) hx1 hc0 (by omega) (by omega) (by rw [sumT]; omega)]; first | done | rfl) | (rw [wvk_0 (k := k) hx1 hc0 (by omega) (by omega) hall]; first | done | rfl)))) [] (rfl) rfl (trivial)
            · refine ExL.nil ?_
              refine Ex.cond_f rfl ?_
              refine Ex.skip ?_
              refine Ex.region (ExL.pures 0 rfl ?_)
              refine ExL.free (by first | exact fr_add64 rfl rfl rfl (by omega) | exact fr_add rfl rfl rfl) rfl rfl rfl ?_
              refine ExL.pures 1 rfl ?_
              refine ExL.nil ?_
              refine Hand.mk (i + 1) 5 [0, 1, 2, 3, 4] ⟨rfl, rfl, trivial⟩ ⟨rfl, rfl, rfl, rfl, rfl, rfl, rfl, rfl, rfl, trivial⟩ (rfl) rfl (⟨by omega, by rw [sumT]; omega⟩) (by omega)
      · refine ExL.nil ?_
        refine Ex.seq ?_
        refine Ex.cond_f rfl ?_
        refine Ex.exit ?_
        obtain rfl : i = (x1.K.getD k zX).xs.length := (by omega)
        rw [partW_full rfl]
        refine Ex.region (ExL.pures 2 rfl ?_)
        refine ExL.nil ?_
        refine Ex.region (ExL.pures 0 rfl ?_)
        refine ExL.free (by first | exact fr_add64 rfl rfl rfl (by omega) | exact fr_add rfl rfl rfl) rfl rfl rfl ?_
        refine ExL.pures 1 rfl ?_
        refine ExL.nil ?_
        refine HandA.of (k + 1) ((some ⟨r5, 0, none⟩)) ((x1.K.getD k zX).xs.length) 5 [0, 2, 3, 4] ⟨(by rw [bef_s]; rfl), rfl, rfl, trivial⟩ ⟨rfl, rfl, rfl, trivial⟩ (by first | rfl | (rw [bef_s]; rfl)) rfl (⟨by omega, all_snoc hall (over_no (by omega))⟩) (by omega)
    · refine ExL.nil ?_
      refine Ex.seq ?_
      refine Ex.cond_f rfl ?_
      refine Ex.exit ?_
      refine Ex.regSeq (ExL.pures 3 rfl ?_)
      refine ExL.nil ?_
      refine Ex.ret ?_
      refine RetQ.mk () rfl (.tmp rfl (.tmp rfl .nil)) (t2 (vI (by first | (rw [wvk_3 (k := k) (i := i + 1) hx1 hc0 (by omega) (by omega) (by rw [sumT]; omega)]; first | done | rfl) | (rw [wvk_0 (k := k) hx1 hc0 (by omega) (by omega) hall]; first | done | rfl))) (vI (by first | (rw [wvk_3 (k := k) (i := i + 1) hx1 hc0 (by omega) (by omega) (by rw [sumT]; omega)]; first | done | rfl) | (rw [wvk_0 (k := k) hx1 hc0 (by omega) (by omega) hall]; first | done | rfl)))) [] (rfl) rfl (trivial)
theorem c_iWays (s : List Int) (hu : Nums 255 s) (As : Option Addr) (cs : Nat) (hls : s.length ≤ maxLen) (L : List VPh) (hLk : ∀ k, k < L.length → OkPh (L.getD k zPh)) (bl cL : Nat) (hlL : L.length ≤ maxLen) (lo hi : Int) : Ret Try.prog 32 [.slice As s.length cs, .slice (some ⟨bl, 0, none⟩) L.length cL, .int .i64 lo, .int .i64 hi] (fun w => Rd w As (s.flatMap (eI .u8)) ∧ Rd w (some ⟨bl, 0, none⟩) (L.flatMap encPh)) (fun x : Unit => .tuple #[.int .i64 (waysV s L lo hi).1, .int .i64 (waysV s L lo hi).2]) (fun x => []) (fun x => True) := by
  by_cases h : codeF s L lo hi lo = 0
  · exact c_iWays_t s hu As cs hls L hLk bl cL hlL lo hi  h
  · exact c_iWays_f s hu As cs hls L hLk bl cL hlL lo hi  h
theorem e_30 : Enters Try.prog 30 := Enters.of Try.func30 rfl
theorem c_sWays_f (s : List Int) (hu : Nums 255 s) (As : Option Addr) (cs : Nat) (hls : s.length ≤ maxLen) (L : List VPh) (hLk : ∀ k, k < L.length → OkPh (L.getD k zPh)) (bl cL : Nat) (hlL : L.length ≤ maxLen) (lo hi : Int) (hc0 : codeF s L lo hi lo ≠ 0) : Ret Try.prog 30 [.slice As s.length cs, .slice (some ⟨bl, 0, none⟩) L.length cL, .int .i64 lo, .int .i64 hi] (fun w => Rd w As (s.flatMap (eI .u8)) ∧ Rd w (some ⟨bl, 0, none⟩) (L.flatMap encPh)) (fun x : Unit => .tuple #[.int .i64 (waysV s L lo hi).1, .int .i64 (waysV s L lo hi).2]) (fun x => []) (fun x => True) := by
  refine Ret.of e_30 Try.func30 rfl Try.ntmps30 rfl rfl (fun w hpre => ?_)
  have hs := hpre.1.base
  have hLr := hpre.2.base
  have hm0 : maxLen = 9223372036854775807 := rfl
  refine Ex.regSeq (ExL.pures 2 rfl ?_)
  refine ExL.nil ?_
  refine Ex.regSeq (ExL.pures 4 rfl ?_)
  refine ExL.op rfl (op_ret rfl rfl rfl (c_l05Begin_f s (by assumption) _ _ (by omega) L (by assumption) _ _ (by omega) lo hi hc0) (fun w hw => ⟨Reads.get (Reads.old hs) w hw, Reads.get (Reads.old hLr) w hw⟩) rfl rfl (fun x1 hx1 => ?_))
  refine ExL.pures 5 rfl ?_
  refine ExL.nil ?_
  refine Ex.seq ?_
  refine Ex.regSeq (ExL.pures 1 rfl ?_)
  refine ExL.neq rfl rfl rfl rfl rfl rfl (fun h2 => ?_) (fun h2 => ?_)
  · refine ExL.nil ?_
    refine Ex.cond_t rfl ?_
    refine Ex.regSeq (ExL.pures 3 rfl ?_)
    refine ExL.nil ?_
    refine Ex.ret ?_
    refine RetQ.mk () rfl (.tmp rfl (.tmp rfl .nil)) (t2 (vI (by first | (rw [wv_c hc0]; first | done | rfl))) (vI (by first | (rw [wv_c hc0]; first | done | rfl)))) [] (rfl) rfl (trivial)
  · refine ExL.nil ?_
    refine Ex.cond_f rfl ?_
    refine Ex.skip ?_
    exfalso; omega
theorem c_sWays_t (s : List Int) (hu : Nums 255 s) (As : Option Addr) (cs : Nat) (hls : s.length ≤ maxLen) (L : List VPh) (hLk : ∀ k, k < L.length → OkPh (L.getD k zPh)) (bl cL : Nat) (hlL : L.length ≤ maxLen) (lo hi : Int) (hc0 : codeF s L lo hi lo = 0) : Ret Try.prog 30 [.slice As s.length cs, .slice (some ⟨bl, 0, none⟩) L.length cL, .int .i64 lo, .int .i64 hi] (fun w => Rd w As (s.flatMap (eI .u8)) ∧ Rd w (some ⟨bl, 0, none⟩) (L.flatMap encPh)) (fun x : Unit => .tuple #[.int .i64 (waysV s L lo hi).1, .int .i64 (waysV s L lo hi).2]) (fun x => []) (fun x => True) := by
  refine Ret.of e_30 Try.func30 rfl Try.ntmps30 rfl rfl (fun w hpre => ?_)
  have hs := hpre.1.base
  have hLr := hpre.2.base
  have hm0 : maxLen = 9223372036854775807 := rfl
  have hLo : ∀ p ∈ L, OkPh p := fun p hp => by obtain ⟨i, hi, rfl⟩ := List.getElem_of_mem hp; have := hLk i hi; simpa [List.getD, hi] using this
  have hF := film hLo hc0
  have hl0 := hF.l0
  have hlh := hF.le
  have hh1 := hF.h1
  have hS := hF.st
  have hv := hF.vs
  have hn1 := hF.len
  refine Ex.regSeq (ExL.pures 2 rfl ?_)
  refine ExL.nil ?_
  refine Ex.regSeq (ExL.pures 4 rfl ?_)
  refine ExL.op rfl (op_ret rfl rfl rfl (c_l05Begin_t s (by assumption) _ _ (by omega) L (by assumption) _ _ (by omega) lo hi hc0) (fun w hw => ⟨Reads.get (Reads.old hs) w hw, Reads.get (Reads.old hLr) w hw⟩) rfl rfl (fun x1 hx1 => ?_))
  have hfk := fk hF hx1
  have hkl := hfk.len
  have hfv := hfk.v
  have hfl := hfk.vl
  refine ExL.pures 5 rfl ?_
  refine ExL.nil ?_
  refine Ex.seq ?_
  refine Ex.regSeq (ExL.pures 1 rfl ?_)
  refine ExL.neq rfl rfl rfl rfl rfl rfl (fun h2 => ?_) (fun h2 => ?_)
  · refine ExL.nil ?_
    refine Ex.cond_t rfl ?_
    exfalso; omega
  · refine ExL.nil ?_
    refine Ex.cond_f rfl ?_
    refine Ex.skip ?_
    refine Ex.regSeq (ExL.pures 0 rfl ?_)
    refine ExL.op rfl (op_buildSlice (sz := 1) rfl rfl rfl rfl rfl rfl rfl rfl (by decide) rfl rfl rfl (fun r3 => ?_))
    refine ExL.pures 1 rfl ?_
    refine ExL.nil ?_
    refine Ex.regSeq (ExL.pures 1 rfl ?_)
    refine ExL.nil ?_
    refine Ex.seq ?_
    refine Ex.regSeq (ExL.pures 1 rfl ?_)
    refine ExL.nil ?_
    refine Ex.block ?_
    refine Ex.loopA (fun k A c => [(12, .slice A ((befL lo hi (fun k => (x1.K.getD k zX).xs) k)).length c), (13, .int .i64 (totW lo hi (fun k => (x1.K.getD k zX).xs) k)), (14, .int .i64 k)]) (fun k A c => [.row (.slice A ((befL lo hi (fun k => (x1.K.getD k zX).xs) k)).length c) 2 1 ((befL lo hi (fun k => (x1.K.getD k zX).xs) k)).length (((befL lo hi (fun k => (x1.K.getD k zX).xs) k)).flatMap (eI .i64))]) (fun k => k ≤ x1.K.length ∧ ∀ i, i < k → wOver lo hi (fun k => (x1.K.getD k zX).xs) i = false) (fun k => x1.K.length - k) 0 ((some ⟨r3, 0, none⟩)) (0) [(10, _)] [_, _, _] 4 [0, 1, 2, 3] ⟨rfl, rfl, rfl, trivial⟩ ⟨rfl, trivial⟩ (rfl) rfl ⟨Nat.zero_le _, fun i hi => by omega⟩ (fun k A c hI => ?_)
    have hI : k ≤ x1.K.length ∧ ∀ i, i < k → wOver lo hi (fun k => (x1.K.getD k zX).xs) i = false := hI
    obtain ⟨hk, hall⟩ := hI
    refine Ex.seq ?_
    refine Ex.regSeq (ExL.pures 4 rfl ?_)
    refine ExL.free (fr_load rfl rfl rfl rfl (CellO.blk (i := 1) rfl rfl)) rfl rfl rfl ?_
    refine ExL.pures 1 rfl ?_
    refine ExL.lss rfl rfl rfl rfl rfl rfl (fun h4 => ?_) (fun h4 => ?_)
    · refine ExL.nil ?_
      refine Ex.cond_t rfl ?_
      refine Ex.skip ?_
      refine Ex.seq ?_
      refine Ex.block ?_
      have hkL : k < L.length := by omega
      have hvl := hfl k hkL
      have hvl1 := hfl (k - 1) (by omega)
      refine Ex.regSeq (ExL.pures 3 rfl ?_)
      refine ExL.free (fr_load rfl rfl rfl rfl (CellO.blk (i := 1) rfl rfl)) rfl rfl rfl ?_
      refine ExL.pures 1 rfl ?_
      refine ExL.free (fr_indexAddrR (sz := 1) 2 rfl rfl rfl rfl rfl rfl (by omega)) rfl rfl rfl ?_
      refine ExL.free (fr_load rfl rfl rfl rfl (by first | exact cellN (Reads.row (i := 2) rfl) encX_len zX 0 rfl (by omega) rfl | exact cellF (Reads.row (i := 2) rfl) encX_len zX 0 rfl (by omega) rfl)) rfl rfl rfl ?_
      refine ExL.pures 1 rfl ?_
      refine ExL.op rfl (op_makeSlice (sz := 8) rfl rfl rfl rfl rfl rfl rfl rfl (⟨by omega, by unfold maxLen; omega⟩) rfl rfl (fun r5 => ?_))
      refine ExL.pures 1 rfl ?_
      refine ExL.nil ?_
      refine Ex.regSeq (ExL.pures 1 rfl ?_)
      refine ExL.nil ?_
      refine Ex.seq ?_
      refine Ex.regSeq (ExL.pures 1 rfl ?_)
      refine ExL.nil ?_
      refine Ex.block ?_
      refine Ex.loopK (X := Nat) (fun i => [(13, .int .i64 (sumT (wayL lo hi (fun k => (x1.K.getD k zX).xs) k) i)), (16, .int .i64 i)]) (fun i => [.row (.slice (some ⟨r5, 0, none⟩) (x1.K.getD k zX).xs.length (x1.K.getD k zX).xs.length) 2 1 (x1.K.getD k zX).xs.length ((Sx.part 0 (wayL lo hi (fun k => (x1.K.getD k zX).xs) k) i).flatMap (eI .i64))]) (fun i => i ≤ (x1.K.getD k zX).xs.length) (fun i => (x1.K.getD k zX).xs.length - i) 0 [(10, _), (12, _), (14, _), (15, _)] [_, _, _, _] 5 [0, 1, 2, 3, 4] ⟨rfl, rfl, trivial⟩ ⟨rfl, rfl, rfl, rfl, trivial⟩ (pkR (zroW rfl)) rfl (Nat.zero_le _) (fun i hI => ?_)
      have hI : i ≤ (x1.K.getD k zX).xs.length := hI
      have hiN := hI
      have hwb := way_bd (lo := lo) (hi := hi) (F := (fun k => (x1.K.getD k zX).xs)) hall i
      refine Ex.seq ?_
      refine Ex.regSeq (ExL.pures 3 rfl ?_)
      refine ExL.lss rfl rfl rfl rfl rfl rfl (fun h6 => ?_) (fun h6 => ?_)
      · refine ExL.nil ?_
        refine Ex.cond_t rfl ?_
        refine Ex.skip ?_
        refine Ex.seq ?_
        refine Ex.block ?_
        have hii : i < (x1.K.getD k zX).xs.length := by omega
        have hvi := hfv k i hkL
        refine Ex.seq ?_
        refine Ex.regSeq (ExL.pures 1 rfl ?_)
        refine ExL.eql rfl rfl rfl rfl rfl rfl (fun h7 => ?_) (fun h7 => ?_)
        · refine ExL.nil ?_
          refine Ex.cond_t rfl ?_
          refine Ex.region (ExL.pures 2 rfl ?_)
          refine ExL.free (fr_indexAddr (sz := 1) rfl rfl rfl rfl rfl rfl (by omega)) rfl rfl rfl ?_
          refine ExL.op rfl (op_storeRowF (i := 0) rfl rfl rfl rfl rfl rfl rfl rfl (room (eI_len .i64) (k := i) (by rw [partW_len (by omega)]; omega) (by simp) rfl) (List.cons_ne_nil _ _) rfl (rowW_0y hii (by omega) (by simp) rfl) ?_)
          refine ExL.nil ?_
          refine Ex.seq ?_
          refine Ex.regSeq (ExL.pures 1 rfl ?_)
          refine ExL.nil ?_
          refine Ex.block ?_
          refine Ex.loopK (X := Nat) (fun j => [(17, .int .i64 j)]) (fun j => [.row (.slice (some ⟨r5, 0, none⟩) (x1.K.getD k zX).xs.length (x1.K.getD k zX).xs.length) 2 1 (x1.K.getD k zX).xs.length ((rowW lo hi (fun k => (x1.K.getD k zX).xs) k i j).flatMap (eI .i64))]) (fun j => j ≤ (befL lo hi (fun k => (x1.K.getD k zX).xs) k).length) (fun j => (befL lo hi (fun k => (x1.K.getD k zX).xs) k).length - j) 0 [(10, _), (12, _), (13, _), (14, _), (15, _), (16, _)] [_, _, _, _] 5 [0, 1, 2, 3, 4] ⟨rfl, trivial⟩ ⟨rfl, rfl, rfl, rfl, rfl, rfl, trivial⟩ (by first | rfl | exact pkR (congrArg (fun z => List.flatMap (eI .i64) z) (rowW_0n hii (by omega)))) rfl (Nat.zero_le _) (fun j hI => ?_)
          have hI : j ≤ (befL lo hi (fun k => (x1.K.getD k zX).xs) k).length := hI
          refine Ex.seq ?_
          refine Ex.regSeq (ExL.pures 1 rfl ?_)
          refine ExL.gtr rfl rfl rfl rfl rfl rfl (fun h8 => ?_) (fun h8 => ?_)
          · refine ExL.pures 4 rfl ?_
            refine ExL.lss rfl rfl rfl rfl rfl rfl (fun h9 => ?_) (fun h9 => ?_)
            · refine ExL.pures 1 rfl ?_
              refine ExL.nil ?_
              refine Ex.cond_t rfl ?_
              refine Ex.skip ?_
              refine Ex.seq ?_
              refine Ex.block ?_
              have hjb : j < (befL lo hi (fun k => (x1.K.getD k zX).xs) k).length := by omega
              have hk0 := bef_pos hjb
              have hbl := bef_len (lo := lo) (hi := hi) (F := (fun k => (x1.K.getD k zX).xs)) hk0
              have hvj := hfv (k - 1) j (by omega)
              have hcb := curW_bd (i := i) (j := j) hall (fun _ => by omega)
              have hbb := bef_bd hall j
              refine Ex.drawSeqM rfl ?_
              refine ExD.take (i := 0) rfl (by kernel_rfl) (pureVal_ok rfl) ((List.Sublist.refl _)) rfl rfl rfl ?_
              refine ExD.take (i := 1) rfl (by kernel_rfl) (pureVal_ok rfl) ((List.Sublist.refl _)) rfl rfl rfl ?_
              refine ExD.take (i := 2) rfl (by kernel_rfl) (pureVal_ok rfl) ((List.Sublist.refl _)) rfl rfl rfl ?_
              refine ExD.take (i := 3) rfl (by kernel_rfl) (pureVal_ok rfl) ((List.Sublist.refl _)) rfl rfl rfl ?_
              refine ExD.take (i := 4) rfl (by kernel_rfl) (fr_load rfl rfl rfl rfl (CellO.blk (i := 2) rfl rfl)) ((List.Sublist.refl _)) rfl rfl rfl ?_
              refine ExD.take (i := 5) rfl (by kernel_rfl) (pureVal_ok rfl) ((List.Sublist.refl _)) rfl rfl rfl ?_
              refine ExD.take (i := 6) rfl (by kernel_rfl) (by first | exact fr_sub64 rfl rfl rfl (by omega) | exact fr_sub rfl rfl rfl) ((List.Sublist.refl _)) rfl rfl rfl ?_
              refine ExD.take (i := 7) rfl (by kernel_rfl) (fr_indexAddrR (sz := 1) 3 rfl rfl rfl rfl rfl rfl (by omega)) ((List.Sublist.refl _)) rfl rfl rfl ?_
              refine ExD.take (i := 8) rfl (by kernel_rfl) (fr_load rfl rfl rfl rfl (cellJ (i := (↑k - 1)) ((k - 1)) (Reads.row (i := 3) rfl) encX_len zX 0 rfl (by omega) (by omega) rfl)) ((List.Sublist.refl _)) rfl rfl rfl ?_
              refine ExD.take (i := 9) rfl (by kernel_rfl) (pureVal_ok rfl) ((List.Sublist.refl _)) rfl rfl rfl ?_
              refine ExD.take (i := 10) rfl (by kernel_rfl) (fr_indexAddrF (readsX (i := 4) rfl (k := (k - 1)) (by omega)) (eI_len .i64) rfl rfl rfl rfl rfl rfl (by omega)) ((List.Sublist.refl _)) rfl rfl rfl ?_
              refine ExD.take (i := 11) rfl (by kernel_rfl) (fr_load rfl rfl rfl rfl (by first | exact cellN (readsX (i := 4) rfl (k := (k - 1)) (by omega)) (eI_len .i64) 0 0 rfl (by omega) rfl | exact cellF (readsX (i := 4) rfl (k := (k - 1)) (by omega)) (eI_len .i64) 0 0 rfl (by omega) rfl)) ((List.Sublist.refl _)) rfl rfl rfl ?_
              refine ExD.take (i := 12) rfl (by kernel_rfl) (pureVal_ok rfl) ((List.Sublist.refl _)) rfl rfl rfl ?_
              refine ExD.take (i := 13) rfl (by kernel_rfl) (pureVal_ok rfl) ((List.Sublist.refl _)) rfl rfl rfl ?_
              refine ExD.take (i := 14) rfl (by kernel_rfl) (pureVal_ok rfl) ((List.Sublist.refl _)) rfl rfl rfl ?_
              refine ExD.take (i := 15) rfl (by kernel_rfl) (fr_load rfl rfl rfl rfl (CellO.blk (i := 2) rfl rfl)) ((List.Sublist.refl _)) rfl rfl rfl ?_
              refine ExD.take (i := 16) rfl (by kernel_rfl) (pureVal_ok rfl) ((List.Sublist.refl _)) rfl rfl rfl ?_
              refine ExD.take (i := 17) rfl (by kernel_rfl) (fr_indexAddrR (sz := 1) 3 rfl rfl rfl rfl rfl rfl (by omega)) ((List.Sublist.refl _)) rfl rfl rfl ?_
              refine ExD.take (i := 18) rfl (by kernel_rfl) (fr_load rfl rfl rfl rfl (by first | exact cellN (Reads.row (i := 3) rfl) encX_len zX 0 rfl (by omega) rfl | exact cellF (Reads.row (i := 3) rfl) encX_len zX 0 rfl (by omega) rfl)) ((List.Sublist.refl _)) rfl rfl rfl ?_
              refine ExD.take (i := 19) rfl (by kernel_rfl) (pureVal_ok rfl) ((List.Sublist.refl _)) rfl rfl rfl ?_
              refine ExD.take (i := 20) rfl (by kernel_rfl) (fr_indexAddrF (readsX (i := 4) rfl (k := k) (by omega)) (eI_len .i64) rfl rfl rfl rfl rfl rfl (by omega)) ((List.Sublist.refl _)) rfl rfl rfl ?_
              refine ExD.take (i := 21) rfl (by kernel_rfl) (fr_load rfl rfl rfl rfl (by first | exact cellN (readsX (i := 4) rfl (k := k) (by omega)) (eI_len .i64) 0 0 rfl (by omega) rfl | exact cellF (readsX (i := 4) rfl (k := k) (by omega)) (eI_len .i64) 0 0 rfl (by omega) rfl)) ((List.Sublist.refl _)) rfl rfl rfl ?_
              refine ExD.op (i := 22) rfl (by kernel_rfl) rfl (op_ret rfl rfl rfl (c_follows _ _ lo hi (by omega) _ ((x1.K.getD (k - 1) zX).xs.getD j 0) ((x1.K.getD k zX).xs.getD i 0) (by omega) (by omega)) (Reads.get (Reads.blk (i := 2) rfl)) rfl rfl (fun x10 hx10 => ⟨(List.Sublist.refl _), ?_⟩))
              refine ExD.done (by kernel_rfl) ?_
              refine Ex.cond rfl (fun hb11 => ?_) (fun hb11 => ?_)
              · refine Ex.drawM rfl ?_
                refine ExD.take (i := 0) rfl (by kernel_rfl) (pureVal_ok rfl) ((List.Sublist.refl _)) rfl rfl rfl ?_
                refine ExD.take (i := 1) rfl (by kernel_rfl) (pureVal_ok rfl) ((List.Sublist.refl _)) rfl rfl rfl ?_
                refine ExD.take (i := 2) rfl (by kernel_rfl) (fr_indexAddr (sz := 1) rfl rfl rfl rfl rfl rfl (by omega)) ((List.Sublist.refl _)) rfl rfl rfl ?_
                refine ExD.take (i := 3) rfl (by kernel_rfl) (fr_load rfl rfl rfl rfl (cellW (v := .int .i64 (curW lo hi (fun k => (x1.K.getD k zX).xs) k i j)) (i := ↑i) i (Reads.row (i := 0) rfl) (eI_len .i64) 0 0 rfl (by omega) (by rw [rowW_len (by omega)]; omega) (rowW_at hii) rfl)) ((List.Sublist.refl _)) rfl rfl rfl ?_
                refine ExD.take (i := 4) rfl (by kernel_rfl) (pureVal_ok rfl) ((List.Sublist.refl _)) rfl rfl rfl ?_
                refine ExD.take (i := 5) rfl (by kernel_rfl) (pureVal_ok rfl) ((List.Sublist.refl _)) rfl rfl rfl ?_
                refine ExD.take (i := 6) rfl (by kernel_rfl) (fr_indexAddrR (sz := 1) 1 rfl rfl rfl rfl rfl rfl (by omega)) ((List.Sublist.refl _)) rfl rfl rfl ?_
                refine ExD.take (i := 7) rfl (by kernel_rfl) (fr_load rfl rfl rfl rfl (by first | exact cellN (Reads.row (i := 1) rfl) (eI_len .i64) 0 0 rfl (by omega) rfl | exact cellF (Reads.row (i := 1) rfl) (eI_len .i64) 0 0 rfl (by omega) rfl)) ((List.Sublist.refl _)) rfl rfl rfl ?_
                refine ExD.take (i := 8) rfl (by kernel_rfl) (by first | exact fr_add64 rfl rfl rfl (by omega) | exact fr_add rfl rfl rfl) ((List.Sublist.refl _)) rfl rfl rfl ?_
                refine ExD.take (i := 9) rfl (by kernel_rfl) (fr_indexAddr (sz := 1) rfl rfl rfl rfl rfl rfl (by omega)) ((List.Sublist.refl _)) rfl rfl rfl ?_
                refine ExD.last (i := 10) rfl (by kernel_rfl) (by kernel_rfl) rfl (op_storeRowF (i := 0) rfl rfl rfl rfl rfl rfl rfl rfl (room (eI_len .i64) (k := i) (by rw [rowW_len (by omega)]; omega) (by simp) rfl) (List.cons_ne_nil _ _) rfl (rowW_s hii (by simp) (congrArg (eI .i64) (cw_y hk0 (by assumption)))) ?_)
                refine ExD.done (by kernel_rfl) ?_
                refine Ex.region (ExL.pures 1 rfl ?_)
                refine ExL.free (by first | exact fr_add64 rfl rfl rfl (by omega) | exact fr_add rfl rfl rfl) rfl rfl rfl ?_
                refine ExL.pures 1 rfl ?_
                refine ExL.nil ?_
                refine Hand.mk (j + 1) 5 [0, 1, 2, 3, 4] ⟨rfl, trivial⟩ ⟨rfl, rfl, rfl, rfl, rfl, rfl, trivial⟩ (by first | rfl | exact pkR (congrArg (fun z => List.flatMap (eI .i64) z) (cw_n hk0 (by assumption)))) rfl (by omega) (by omega)
              · refine Ex.skip ?_
                refine Ex.region (ExL.pures 1 rfl ?_)
                refine ExL.free (by first | exact fr_add64 rfl rfl rfl (by omega) | exact fr_add rfl rfl rfl) rfl rfl rfl ?_
                refine ExL.pures 1 rfl ?_
                refine ExL.nil ?_
                refine Hand.mk (j + 1) 5 [0, 1, 2, 3, 4] ⟨rfl, trivial⟩ ⟨rfl, rfl, rfl, rfl, rfl, rfl, trivial⟩ (by first | rfl | exact pkR (congrArg (fun z => List.flatMap (eI .i64) z) (cw_n hk0 (by assumption)))) rfl (by omega) (by omega)
            · refine ExL.pures 1 rfl ?_
              refine ExL.nil ?_
              refine Ex.cond_f rfl ?_
              refine Ex.exit ?_
              rw [rowW_fin hii (by omega)]
              refine Ex.region (ExL.pures 3 rfl ?_)
              refine ExL.free (fr_indexAddr (sz := 1) rfl rfl rfl rfl rfl rfl (by omega)) rfl rfl rfl ?_
              refine ExL.free (fr_load rfl rfl rfl rfl (cellW (v := .int .i64 ((wayL lo hi (fun k => (x1.K.getD k zX).xs) k).getD i 0)) (i := ↑i) i (Reads.row (i := 0) rfl) (eI_len .i64) 0 0 rfl (by omega) (by rw [partW_len (by omega)]; omega) (partW_at hii) rfl)) rfl rfl rfl ?_
              refine ExL.free (by first | exact fr_add64 rfl rfl rfl (by omega) | exact fr_add rfl rfl rfl) rfl rfl rfl ?_
              refine ExL.pures 1 rfl ?_
              refine ExL.nil ?_
              refine Ex.region (ExL.pures 1 rfl ?_)
              refine ExL.free (by first | exact fr_add64 rfl rfl rfl (by omega) | exact fr_add rfl rfl rfl) rfl rfl rfl ?_
              refine ExL.pures 1 rfl ?_
              refine ExL.nil ?_
              refine Hand.mk (i + 1) 5 [0, 1, 2, 3, 4] ⟨rfl, rfl, trivial⟩ ⟨rfl, rfl, rfl, rfl, trivial⟩ (rfl) rfl (by omega) (by omega)
          · refine ExL.pures 6 rfl ?_
            refine ExL.nil ?_
            refine Ex.cond_f rfl ?_
            refine Ex.exit ?_
            rw [rowW_fin hii (by omega)]
            refine Ex.region (ExL.pures 3 rfl ?_)
            refine ExL.free (fr_indexAddr (sz := 1) rfl rfl rfl rfl rfl rfl (by omega)) rfl rfl rfl ?_
            refine ExL.free (fr_load rfl rfl rfl rfl (cellW (v := .int .i64 ((wayL lo hi (fun k => (x1.K.getD k zX).xs) k).getD i 0)) (i := ↑i) i (Reads.row (i := 0) rfl) (eI_len .i64) 0 0 rfl (by omega) (by rw [partW_len (by omega)]; omega) (partW_at hii) rfl)) rfl rfl rfl ?_
            refine ExL.free (by first | exact fr_add64 rfl rfl rfl (by omega) | exact fr_add rfl rfl rfl) rfl rfl rfl ?_
            refine ExL.pures 1 rfl ?_
            refine ExL.nil ?_
            refine Ex.region (ExL.pures 1 rfl ?_)
            refine ExL.free (by first | exact fr_add64 rfl rfl rfl (by omega) | exact fr_add rfl rfl rfl) rfl rfl rfl ?_
            refine ExL.pures 1 rfl ?_
            refine ExL.nil ?_
            refine Hand.mk (i + 1) 5 [0, 1, 2, 3, 4] ⟨rfl, rfl, trivial⟩ ⟨rfl, rfl, rfl, rfl, trivial⟩ (rfl) rfl (by omega) (by omega)
        · refine ExL.nil ?_
          refine Ex.cond_f rfl ?_
          refine Ex.skip ?_
          refine Ex.seq ?_
          refine Ex.regSeq (ExL.pures 1 rfl ?_)
          refine ExL.nil ?_
          refine Ex.block ?_
          refine Ex.loopK (X := Nat) (fun j => [(17, .int .i64 j)]) (fun j => [.row (.slice (some ⟨r5, 0, none⟩) (x1.K.getD k zX).xs.length (x1.K.getD k zX).xs.length) 2 1 (x1.K.getD k zX).xs.length ((rowW lo hi (fun k => (x1.K.getD k zX).xs) k i j).flatMap (eI .i64))]) (fun j => j ≤ (befL lo hi (fun k => (x1.K.getD k zX).xs) k).length) (fun j => (befL lo hi (fun k => (x1.K.getD k zX).xs) k).length - j) 0 [(10, _), (12, _), (13, _), (14, _), (15, _), (16, _)] [_, _, _, _] 5 [0, 1, 2, 3, 4] ⟨rfl, trivial⟩ ⟨rfl, rfl, rfl, rfl, rfl, rfl, trivial⟩ (by first | rfl | exact pkR (congrArg (fun z => List.flatMap (eI .i64) z) (rowW_0n hii (by omega)))) rfl (Nat.zero_le _) (fun j hI => ?_)
          have hI : j ≤ (befL lo hi (fun k => (x1.K.getD k zX).xs) k).length := hI
          refine Ex.seq ?_
          refine Ex.regSeq (ExL.pures 1 rfl ?_)
          refine ExL.gtr rfl rfl rfl rfl rfl rfl (fun h12 => ?_) (fun h12 => ?_)
          · refine ExL.pures 4 rfl ?_
            refine ExL.lss rfl rfl rfl rfl rfl rfl (fun h13 => ?_) (fun h13 => ?_)
            · refine ExL.pures 1 rfl ?_
              refine ExL.nil ?_
              refine Ex.cond_t rfl ?_
              refine Ex.skip ?_
              refine Ex.seq ?_
              refine Ex.block ?_
              have hjb : j < (befL lo hi (fun k => (x1.K.getD k zX).xs) k).length := by omega
              have hk0 := bef_pos hjb
              have hbl := bef_len (lo := lo) (hi := hi) (F := (fun k => (x1.K.getD k zX).xs)) hk0
              have hvj := hfv (k - 1) j (by omega)
              have hcb := curW_bd (i := i) (j := j) hall (fun _ => by omega)
              have hbb := bef_bd hall j
              refine Ex.drawSeqM rfl ?_
              refine ExD.take (i := 0) rfl (by kernel_rfl) (pureVal_ok rfl) ((List.Sublist.refl _)) rfl rfl rfl ?_
              refine ExD.take (i := 1) rfl (by kernel_rfl) (pureVal_ok rfl) ((List.Sublist.refl _)) rfl rfl rfl ?_
              refine ExD.take (i := 2) rfl (by kernel_rfl) (pureVal_ok rfl) ((List.Sublist.refl _)) rfl rfl rfl ?_
              refine ExD.take (i := 3) rfl (by kernel_rfl) (pureVal_ok rfl) ((List.Sublist.refl _)) rfl rfl rfl ?_
              refine ExD.take (i := 4) rfl (by kernel_rfl) (fr_load rfl rfl rfl rfl (CellO.blk (i := 2) rfl rfl)) ((List.Sublist.refl _)) rfl rfl rfl ?_
              refine ExD.take (i := 5) rfl (by kernel_rfl) (pureVal_ok rfl) ((List.Sublist.refl _)) rfl rfl rfl ?_
              refine ExD.take (i := 6) rfl (by kernel_rfl) (by first | exact fr_sub64 rfl rfl rfl (by omega) | exact fr_sub rfl rfl rfl) ((List.Sublist.refl _)) rfl rfl rfl ?_
              refine ExD.take (i := 7) rfl (by kernel_rfl) (fr_indexAddrR (sz := 1) 3 rfl rfl rfl rfl rfl rfl (by omega)) ((List.Sublist.refl _)) rfl rfl rfl ?_
              refine ExD.take (i := 8) rfl (by kernel_rfl) (fr_load rfl rfl rfl rfl (cellJ (i := (↑k - 1)) ((k - 1)) (Reads.row (i := 3) rfl) encX_len zX 0 rfl (by omega) (by omega) rfl)) ((List.Sublist.refl _)) rfl rfl rfl ?_
              refine ExD.take (i := 9) rfl (by kernel_rfl) (pureVal_ok rfl) ((List.Sublist.refl _)) rfl rfl rfl ?_
              refine ExD.take (i := 10) rfl (by kernel_rfl) (fr_indexAddrF (readsX (i := 4) rfl (k := (k - 1)) (by omega)) (eI_len .i64) rfl rfl rfl rfl rfl rfl (by omega)) ((List.Sublist.refl _)) rfl rfl rfl ?_
              refine ExD.take (i := 11) rfl (by kernel_rfl) (fr_load rfl rfl rfl rfl (by first | exact cellN (readsX (i := 4) rfl (k := (k - 1)) (by omega)) (eI_len .i64) 0 0 rfl (by omega) rfl | exact cellF (readsX (i := 4) rfl (k := (k - 1)) (by omega)) (eI_len .i64) 0 0 rfl (by omega) rfl)) ((List.Sublist.refl _)) rfl rfl rfl ?_
              refine ExD.take (i := 12) rfl (by kernel_rfl) (pureVal_ok rfl) ((List.Sublist.refl _)) rfl rfl rfl ?_
              refine ExD.take (i := 13) rfl (by kernel_rfl) (pureVal_ok rfl) ((List.Sublist.refl _)) rfl rfl rfl ?_
              refine ExD.take (i := 14) rfl (by kernel_rfl) (pureVal_ok rfl) ((List.Sublist.refl _)) rfl rfl rfl ?_
              refine ExD.take (i := 15) rfl (by kernel_rfl) (fr_load rfl rfl rfl rfl (CellO.blk (i := 2) rfl rfl)) ((List.Sublist.refl _)) rfl rfl rfl ?_
              refine ExD.take (i := 16) rfl (by kernel_rfl) (pureVal_ok rfl) ((List.Sublist.refl _)) rfl rfl rfl ?_
              refine ExD.take (i := 17) rfl (by kernel_rfl) (fr_indexAddrR (sz := 1) 3 rfl rfl rfl rfl rfl rfl (by omega)) ((List.Sublist.refl _)) rfl rfl rfl ?_
              refine ExD.take (i := 18) rfl (by kernel_rfl) (fr_load rfl rfl rfl rfl (by first | exact cellN (Reads.row (i := 3) rfl) encX_len zX 0 rfl (by omega) rfl | exact cellF (Reads.row (i := 3) rfl) encX_len zX 0 rfl (by omega) rfl)) ((List.Sublist.refl _)) rfl rfl rfl ?_
              refine ExD.take (i := 19) rfl (by kernel_rfl) (pureVal_ok rfl) ((List.Sublist.refl _)) rfl rfl rfl ?_
              refine ExD.take (i := 20) rfl (by kernel_rfl) (fr_indexAddrF (readsX (i := 4) rfl (k := k) (by omega)) (eI_len .i64) rfl rfl rfl rfl rfl rfl (by omega)) ((List.Sublist.refl _)) rfl rfl rfl ?_
              refine ExD.take (i := 21) rfl (by kernel_rfl) (fr_load rfl rfl rfl rfl (by first | exact cellN (readsX (i := 4) rfl (k := k) (by omega)) (eI_len .i64) 0 0 rfl (by omega) rfl | exact cellF (readsX (i := 4) rfl (k := k) (by omega)) (eI_len .i64) 0 0 rfl (by omega) rfl)) ((List.Sublist.refl _)) rfl rfl rfl ?_
              refine ExD.op (i := 22) rfl (by kernel_rfl) rfl (op_ret rfl rfl rfl (c_follows _ _ lo hi (by omega) _ ((x1.K.getD (k - 1) zX).xs.getD j 0) ((x1.K.getD k zX).xs.getD i 0) (by omega) (by omega)) (Reads.get (Reads.blk (i := 2) rfl)) rfl rfl (fun x14 hx14 => ⟨(List.Sublist.refl _), ?_⟩))
              refine ExD.done (by kernel_rfl) ?_
              refine Ex.cond rfl (fun hb15 => ?_) (fun hb15 => ?_)
              · refine Ex.drawM rfl ?_
                refine ExD.take (i := 0) rfl (by kernel_rfl) (pureVal_ok rfl) ((List.Sublist.refl _)) rfl rfl rfl ?_
                refine ExD.take (i := 1) rfl (by kernel_rfl) (pureVal_ok rfl) ((List.Sublist.refl _)) rfl rfl rfl ?_
                refine ExD.take (i := 2) rfl (by kernel_rfl) (fr_indexAddr (sz := 1) rfl rfl rfl rfl rfl rfl (by omega)) ((List.Sublist.refl _)) rfl rfl rfl ?_
                refine ExD.take (i := 3) rfl (by kernel_rfl) (fr_load rfl rfl rfl rfl (cellW (v := .int .i64 (curW lo hi (fun k => (x1.K.getD k zX).xs) k i j)) (i := ↑i) i (Reads.row (i := 0) rfl) (eI_len .i64) 0 0 rfl (by omega) (by rw [rowW_len (by omega)]; omega) (rowW_at hii) rfl)) ((List.Sublist.refl _)) rfl rfl rfl ?_
                refine ExD.take (i := 4) rfl (by kernel_rfl) (pureVal_ok rfl) ((List.Sublist.refl _)) rfl rfl rfl ?_
                refine ExD.take (i := 5) rfl (by kernel_rfl) (pureVal_ok rfl) ((List.Sublist.refl _)) rfl rfl rfl ?_
                refine ExD.take (i := 6) rfl (by kernel_rfl) (fr_indexAddrR (sz := 1) 1 rfl rfl rfl rfl rfl rfl (by omega)) ((List.Sublist.refl _)) rfl rfl rfl ?_
                refine ExD.take (i := 7) rfl (by kernel_rfl) (fr_load rfl rfl rfl rfl (by first | exact cellN (Reads.row (i := 1) rfl) (eI_len .i64) 0 0 rfl (by omega) rfl | exact cellF (Reads.row (i := 1) rfl) (eI_len .i64) 0 0 rfl (by omega) rfl)) ((List.Sublist.refl _)) rfl rfl rfl ?_
                refine ExD.take (i := 8) rfl (by kernel_rfl) (by first | exact fr_add64 rfl rfl rfl (by omega) | exact fr_add rfl rfl rfl) ((List.Sublist.refl _)) rfl rfl rfl ?_
                refine ExD.take (i := 9) rfl (by kernel_rfl) (fr_indexAddr (sz := 1) rfl rfl rfl rfl rfl rfl (by omega)) ((List.Sublist.refl _)) rfl rfl rfl ?_
                refine ExD.last (i := 10) rfl (by kernel_rfl) (by kernel_rfl) rfl (op_storeRowF (i := 0) rfl rfl rfl rfl rfl rfl rfl rfl (room (eI_len .i64) (k := i) (by rw [rowW_len (by omega)]; omega) (by simp) rfl) (List.cons_ne_nil _ _) rfl (rowW_s hii (by simp) (congrArg (eI .i64) (cw_y hk0 (by assumption)))) ?_)
                refine ExD.done (by kernel_rfl) ?_
                refine Ex.region (ExL.pures 1 rfl ?_)
                refine ExL.free (by first | exact fr_add64 rfl rfl rfl (by omega) | exact fr_add rfl rfl rfl) rfl rfl rfl ?_
                refine ExL.pures 1 rfl ?_
                refine ExL.nil ?_
                refine Hand.mk (j + 1) 5 [0, 1, 2, 3, 4] ⟨rfl, trivial⟩ ⟨rfl, rfl, rfl, rfl, rfl, rfl, trivial⟩ (by first | rfl | exact pkR (congrArg (fun z => List.flatMap (eI .i64) z) (cw_n hk0 (by assumption)))) rfl (by omega) (by omega)
              · refine Ex.skip ?_
                refine Ex.region (ExL.pures 1 rfl ?_)
                refine ExL.free (by first | exact fr_add64 rfl rfl rfl (by omega) | exact fr_add rfl rfl rfl) rfl rfl rfl ?_
                refine ExL.pures 1 rfl ?_
                refine ExL.nil ?_
                refine Hand.mk (j + 1) 5 [0, 1, 2, 3, 4] ⟨rfl, trivial⟩ ⟨rfl, rfl, rfl, rfl, rfl, rfl, trivial⟩ (by first | rfl | exact pkR (congrArg (fun z => List.flatMap (eI .i64) z) (cw_n hk0 (by assumption)))) rfl (by omega) (by omega)
            · refine ExL.pures 1 rfl ?_
              refine ExL.nil ?_
              refine Ex.cond_f rfl ?_
              refine Ex.exit ?_
              rw [rowW_fin hii (by omega)]
              refine Ex.region (ExL.pures 3 rfl ?_)
              refine ExL.free (fr_indexAddr (sz := 1) rfl rfl rfl rfl rfl rfl (by omega)) rfl rfl rfl ?_
              refine ExL.free (fr_load rfl rfl rfl rfl (cellW (v := .int .i64 ((wayL lo hi (fun k => (x1.K.getD k zX).xs) k).getD i 0)) (i := ↑i) i (Reads.row (i := 0) rfl) (eI_len .i64) 0 0 rfl (by omega) (by rw [partW_len (by omega)]; omega) (partW_at hii) rfl)) rfl rfl rfl ?_
              refine ExL.free (by first | exact fr_add64 rfl rfl rfl (by omega) | exact fr_add rfl rfl rfl) rfl rfl rfl ?_
              refine ExL.pures 1 rfl ?_
              refine ExL.nil ?_
              refine Ex.region (ExL.pures 1 rfl ?_)
              refine ExL.free (by first | exact fr_add64 rfl rfl rfl (by omega) | exact fr_add rfl rfl rfl) rfl rfl rfl ?_
              refine ExL.pures 1 rfl ?_
              refine ExL.nil ?_
              refine Hand.mk (i + 1) 5 [0, 1, 2, 3, 4] ⟨rfl, rfl, trivial⟩ ⟨rfl, rfl, rfl, rfl, trivial⟩ (rfl) rfl (by omega) (by omega)
          · refine ExL.pures 6 rfl ?_
            refine ExL.nil ?_
            refine Ex.cond_f rfl ?_
            refine Ex.exit ?_
            rw [rowW_fin hii (by omega)]
            refine Ex.region (ExL.pures 3 rfl ?_)
            refine ExL.free (fr_indexAddr (sz := 1) rfl rfl rfl rfl rfl rfl (by omega)) rfl rfl rfl ?_
            refine ExL.free (fr_load rfl rfl rfl rfl (cellW (v := .int .i64 ((wayL lo hi (fun k => (x1.K.getD k zX).xs) k).getD i 0)) (i := ↑i) i (Reads.row (i := 0) rfl) (eI_len .i64) 0 0 rfl (by omega) (by rw [partW_len (by omega)]; omega) (partW_at hii) rfl)) rfl rfl rfl ?_
            refine ExL.free (by first | exact fr_add64 rfl rfl rfl (by omega) | exact fr_add rfl rfl rfl) rfl rfl rfl ?_
            refine ExL.pures 1 rfl ?_
            refine ExL.nil ?_
            refine Ex.region (ExL.pures 1 rfl ?_)
            refine ExL.free (by first | exact fr_add64 rfl rfl rfl (by omega) | exact fr_add rfl rfl rfl) rfl rfl rfl ?_
            refine ExL.pures 1 rfl ?_
            refine ExL.nil ?_
            refine Hand.mk (i + 1) 5 [0, 1, 2, 3, 4] ⟨rfl, rfl, trivial⟩ ⟨rfl, rfl, rfl, rfl, trivial⟩ (rfl) rfl (by omega) (by omega)
      · refine ExL.nil ?_
        refine Ex.cond_f rfl ?_
        refine Ex.exit ?_
        obtain rfl : i = (x1.K.getD k zX).xs.length := (by omega)
        rw [partW_full rfl]
        refine Ex.seq ?_
        refine Ex.regSeq (ExL.pures 1 rfl ?_)
        refine ExL.gtr rfl rfl rfl rfl rfl rfl (fun h16 => ?_) (fun h16 => ?_)
        · refine ExL.nil ?_
          refine Ex.cond_t rfl ?_
          refine Ex.regSeq (ExL.pures 2 rfl ?_)
          refine ExL.nil ?_
          refine Ex.ret ?_
          refine RetQ.mk () rfl (.tmp rfl (.tmp rfl .nil)) (t2 (vI (by first | (rw [wvk_3 (k := k) (i := (x1.K.getD k zX).xs.length) hx1 hc0 (by omega) (by omega) (by omega)]; first | done | rfl) | (rw [wvk_0 (k := k) hx1 hc0 (by omega) (by omega) hall]; first | done | rfl))) (vI (by first | (rw [wvk_3 (k := k) (i := (x1.K.getD k zX).xs.length) hx1 hc0 (by omega) (by omega) (by omega)]; first | done | rfl) | (rw [wvk_0 (k := k) hx1 hc0 (by omega) (by omega) hall]; first | done | rfl)))) [] (rfl) rfl (trivial)
        · refine ExL.nil ?_
          refine Ex.cond_f rfl ?_
          refine Ex.skip ?_
          refine Ex.region (ExL.pures 2 rfl ?_)
          refine ExL.nil ?_
          refine Ex.region (ExL.pures 1 rfl ?_)
          refine ExL.free (by first | exact fr_add64 rfl rfl rfl (by omega) | exact fr_add rfl rfl rfl) rfl rfl rfl ?_
          refine ExL.pures 1 rfl ?_
          refine ExL.nil ?_
          refine HandA.of (k + 1) ((some ⟨r5, 0, none⟩)) ((x1.K.getD k zX).xs.length) 5 [0, 2, 3, 4] ⟨(by rw [bef_s]; rfl), rfl, rfl, trivial⟩ ⟨rfl, trivial⟩ (by first | rfl | (rw [bef_s]; rfl)) rfl (⟨by omega, all_snoc hall (over_no (by omega))⟩) (by omega)
    · refine ExL.nil ?_
      refine Ex.cond_f rfl ?_
      refine Ex.exit ?_
      refine Ex.regSeq (ExL.pures 3 rfl ?_)
      refine ExL.nil ?_
      refine Ex.ret ?_
      refine RetQ.mk () rfl (.tmp rfl (.tmp rfl .nil)) (t2 (vI (by first | (rw [wvk_3 (k := k) (i := (x1.K.getD k zX).xs.length) hx1 hc0 (by omega) (by omega) (by omega)]; first | done | rfl) | (rw [wvk_0 (k := k) hx1 hc0 (by omega) (by omega) hall]; first | done | rfl))) (vI (by first | (rw [wvk_3 (k := k) (i := (x1.K.getD k zX).xs.length) hx1 hc0 (by omega) (by omega) (by omega)]; first | done | rfl) | (rw [wvk_0 (k := k) hx1 hc0 (by omega) (by omega) hall]; first | done | rfl)))) [] (rfl) rfl (trivial)
theorem c_sWays (s : List Int) (hu : Nums 255 s) (As : Option Addr) (cs : Nat) (hls : s.length ≤ maxLen) (L : List VPh) (hLk : ∀ k, k < L.length → OkPh (L.getD k zPh)) (bl cL : Nat) (hlL : L.length ≤ maxLen) (lo hi : Int) : Ret Try.prog 30 [.slice As s.length cs, .slice (some ⟨bl, 0, none⟩) L.length cL, .int .i64 lo, .int .i64 hi] (fun w => Rd w As (s.flatMap (eI .u8)) ∧ Rd w (some ⟨bl, 0, none⟩) (L.flatMap encPh)) (fun x : Unit => .tuple #[.int .i64 (waysV s L lo hi).1, .int .i64 (waysV s L lo hi).2]) (fun x => []) (fun x => True) := by
  by_cases h : codeF s L lo hi lo = 0
  · exact c_sWays_t s hu As cs hls L hLk bl cL hlL lo hi  h
  · exact c_sWays_f s hu As cs hls L hLk bl cL hlL lo hi  h
end Go.Proofs.Ytplljnddhkleaaa
