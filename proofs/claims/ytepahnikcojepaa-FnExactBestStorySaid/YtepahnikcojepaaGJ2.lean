/- What these functions of the program hand back, each proved by walking its operations. -/
import Derived.Test.YtepahnikcojepaaProg
import Derived.Test.YtepahnikcojepaaFw
import Derived.Test.YtepahnikcojepaaGJ1
import Derived.Test.YtepahnikcojepaaM16
set_option linter.unusedVariables false
set_option linter.unusedSimpArgs false
set_option maxRecDepth 4000
namespace Go.Proofs.Ytepahnikcojepaa
open Go Go.Sx Go.RowKit Go.W Go.Proofs
attribute [local irreducible] Ex ExL ExD Op1 Free RetQ MutQ Reads CellO SegO LoadsAs
theorem c_l04FitsI (s : List Int) (hu : Nums 255 s) (As : Option Addr) (cs : Nat) (hls : s.length ≤ maxLen) (l : List VP) (Al : Option Addr) (cl : Nat) (hll : l.length ≤ maxLen) (hL : Log s l) (f : VP) (hf : validFlow f = true) (i k : Int) (hi : 0 ≤ i ∧ i < (l.length : Int)) (hk : 0 ≤ k ∧ k < (l.length : Int)) : Ret Try.prog 113 [.slice As s.length cs, .slice Al l.length cl, .agg (encP f).toArray, .int .i64 i, .int .i64 k] (fun w => Rd w As (s.flatMap (eI .u8)) ∧ Rd w Al (l.flatMap encP)) (fun x : Unit => .bool (fitsF s l f i.toNat k.toNat)) (fun x => []) (fun x => True) := by
  have h := c_l04Fits s hu As cs hls l Al cl hll hL f hf i.toNat k.toNat (by omega) (by omega)
  rwa [Int.toNat_of_nonneg hi.1, Int.toNat_of_nonneg hk.1] at h
theorem e_90 : Enters Try.prog 90 := Enters.of Try.func90 rfl
theorem c_l04Best (s : List Int) (hu : Nums 255 s) (As : Option Addr) (cs : Nat) (hls : s.length ≤ maxLen) (l : List VP) (Al : Option Addr) (cl : Nat) (hll : l.length ≤ maxLen) (hL : Log s l) (f : VP) (hf : validFlow f = true) : Ret Try.prog 90 [.slice As s.length cs, .slice Al l.length cl, .agg (encP f).toArray] (fun w => Rd w As (s.flatMap (eI .u8)) ∧ Rd w Al (l.flatMap encP)) (fun x : (Option Addr × Nat) × (Option Addr × Nat) => .agg (encY x.1.1 x.1.2 x.2.1 x.2.2 (stV (fitsF s l f) l.length)).toArray) (fun x => [.row (.slice x.1.1 (stK (fitsF s l f) l.length).length x.1.2) 2 1 (stK (fitsF s l f) l.length).length ((stK (fitsF s l f) l.length).flatMap (eI .i64)), .row (.slice x.2.1 (stB (fitsF s l f) l.length).length x.2.2) 2 1 (stB (fitsF s l f) l.length).length ((stB (fitsF s l f) l.length).flatMap (eI .i64))]) (fun x => True) := by
  refine Ret.of e_90 Try.func90 rfl Try.ntmps90 rfl rfl (fun w hpre => ?_)
  have hs := hpre.1.base
  have hl := hpre.2.base
  have hm0 : maxLen = 9223372036854775807 := rfl
  have hLl := hL.len
  refine Ex.regSeq (ExL.pures 0 rfl ?_)
  refine ExL.op rfl (op_box rfl rfl rfl rfl rfl (fun b1 => ?_))
  refine ExL.op rfl (op_alloc rfl rfl rfl rfl rfl (fun b2 => ?_))
  refine ExL.nil ?_
  refine Ex.regSeq (ExL.pures 0 rfl ?_)
  refine ExL.free (fr_build rfl rfl rfl rfl) rfl rfl rfl ?_
  refine ExL.op rfl (op_alloc rfl rfl rfl rfl rfl (fun b3 => ?_))
  refine ExL.op rfl (op_storeC (i := 0) rfl rfl rfl rfl rfl rfl rfl rfl rfl rfl ?_)
  refine ExL.nil ?_
  refine Ex.regSeq (ExL.pures 2 rfl ?_)
  refine ExL.free (fr_loadN rfl rfl rfl rfl rfl (SegO.whole (i := 2) rfl)) rfl rfl rfl ?_
  refine ExL.op rfl (op_ret rfl rfl rfl (c_l04Rests s (by assumption) _ _ (by omega) l _ _ (by omega) (by assumption) f (by assumption)) (fun w hw => ⟨Reads.get (Reads.old hs) w hw, Reads.get (Reads.old hl) w hw⟩) rfl rfl (fun x4 hx4 => ?_))
  refine ExL.pures 1 rfl ?_
  refine ExL.nil ?_
  refine Ex.regSeq (ExL.pures 1 rfl ?_)
  refine ExL.nil ?_
  refine Ex.regSeq (ExL.pures 1 rfl ?_)
  refine ExL.nil ?_
  refine Ex.seq ?_
  refine Ex.regSeq (ExL.pures 1 rfl ?_)
  refine ExL.nil ?_
  refine Ex.block ?_
  refine Ex.loopK (X := Nat) (fun m => [(9, .int .i64 (bstV (fitsF s l f) l.length m).next), (10, .int .i64 (bstV (fitsF s l f) l.length m).breaks), (11, .int .i64 m)]) (fun m => [.blk b3 [.slice none 0 0, .slice none 0 0, .int .i64 (bstV (fitsF s l f) l.length m).cost] 69]) (fun m => m ≤ l.length) (fun m => l.length - m) 0 [(0, _), (1, _), (5, _), (6, _), (7, _), (8, _)] [_, _, _] 4 [1, 0, 2, 3] ⟨rfl, rfl, rfl, trivial⟩ ⟨rfl, rfl, rfl, rfl, rfl, rfl, trivial⟩ (rfl) rfl (Nat.zero_le _) (fun m hI => ?_)
  have hI : m ≤ l.length := hI
  refine Ex.seq ?_
  refine Ex.regSeq (ExL.pures 3 rfl ?_)
  refine ExL.lss rfl rfl rfl rfl rfl rfl (fun h5 => ?_) (fun h5 => ?_)
  · refine ExL.nil ?_
    refine Ex.cond_t rfl ?_
    refine Ex.skip ?_
    refine Ex.seq ?_
    refine Ex.block ?_
    have hrl := rstL_len (fitsF s l f) l.length
    have hrb := rst_bd (fit := (fitsF s l f)) (n := l.length) (i := m) (by omega)
    have hbb := bst_bd (fit := (fitsF s l f)) (n := l.length) m (by omega)
    refine Ex.regSeq (ExL.pures 1 rfl ?_)
    refine ExL.free (by first | exact fr_mul64 rfl rfl rfl (by omega) | exact fr_mul rfl rfl rfl) rfl rfl rfl ?_
    refine ExL.pures 2 rfl ?_
    refine ExL.free (fr_indexAddr (sz := 3) rfl rfl rfl rfl rfl rfl (by omega)) rfl rfl rfl ?_
    refine ExL.free (fr_fieldAddrF (i := (↑m : Int).toNat) (Reads.row (i := 1) rfl) encR_len rfl rfl rfl (by omega) rfl rfl rfl rfl) rfl rfl rfl ?_
    refine ExL.free (fr_load rfl rfl rfl rfl (by first | exact cellN (Reads.row (i := 1) rfl) encR_len zR 0 rfl (by omega) rfl | exact cellF (Reads.row (i := 1) rfl) encR_len zR 0 rfl (by omega) rfl)) rfl rfl rfl ?_
    refine ExL.free (by first | exact fr_add64 rfl rfl rfl (by omega) | exact fr_add rfl rfl rfl) rfl rfl rfl ?_
    refine ExL.pures 1 rfl ?_
    refine ExL.nil ?_
    refine Ex.regSeq (ExL.pures 1 rfl ?_)
    refine ExL.lss rfl rfl rfl rfl rfl rfl (fun h6 => ?_) (fun h6 => ?_)
    · refine ExL.pures 21 rfl ?_
      refine ExL.nil ?_
      refine Ex.cond_t rfl ?_
      refine Ex.regSeq (ExL.pures 2 rfl ?_)
      refine ExL.nil ?_
      refine Ex.regSeq (ExL.pures 2 rfl ?_)
      refine ExL.free (fr_indexAddr (sz := 3) rfl rfl rfl rfl rfl rfl (by omega)) rfl rfl rfl ?_
      refine ExL.free (fr_fieldAddrF (i := (↑m : Int).toNat) (Reads.row (i := 1) rfl) encR_len rfl rfl rfl (by omega) rfl rfl rfl rfl) rfl rfl rfl ?_
      refine ExL.free (fr_load rfl rfl rfl rfl (by first | exact cellN (Reads.row (i := 1) rfl) encR_len zR 1 rfl (by omega) rfl | exact cellF (Reads.row (i := 1) rfl) encR_len zR 1 rfl (by omega) rfl)) rfl rfl rfl ?_
      refine ExL.pures 1 rfl ?_
      refine ExL.nil ?_
      refine Ex.region (ExL.pures 2 rfl ?_)
      refine ExL.op rfl (op_storeC (i := 0) rfl rfl rfl rfl rfl rfl rfl rfl rfl rfl ?_)
      refine ExL.nil ?_
      refine Ex.region (ExL.pures 1 rfl ?_)
      refine ExL.free (by first | exact fr_add64 rfl rfl rfl (by omega) | exact fr_add rfl rfl rfl) rfl rfl rfl ?_
      refine ExL.pures 1 rfl ?_
      refine ExL.nil ?_
      refine Hand.mk (m + 1) 4 [0, 1, 2, 3] ⟨agI (by first | (rw [bst_y (by omega)]) | (rw [bst_n (by omega)])), agI (by first | (rw [bst_y (by omega)]) | (rw [bst_n (by omega)])), rfl, trivial⟩ ⟨rfl, rfl, rfl, rfl, rfl, rfl, trivial⟩ (by first | (rw [bst_y (by omega), Int.one_mul]; rfl) | (rw [bst_n (by omega)]; first | done | rfl)) rfl (by omega) (by omega)
    · refine ExL.pures 3 rfl ?_
      refine ExL.free (fr_load rfl rfl rfl rfl (CellO.blk (i := 0) rfl rfl)) rfl rfl rfl ?_
      refine ExL.lss rfl rfl rfl rfl rfl rfl (fun h7 => ?_) (fun h7 => ?_)
      · refine ExL.pures 16 rfl ?_
        refine ExL.nil ?_
        refine Ex.cond_t rfl ?_
        refine Ex.regSeq (ExL.pures 2 rfl ?_)
        refine ExL.nil ?_
        refine Ex.regSeq (ExL.pures 2 rfl ?_)
        refine ExL.free (fr_indexAddr (sz := 3) rfl rfl rfl rfl rfl rfl (by omega)) rfl rfl rfl ?_
        refine ExL.free (fr_fieldAddrF (i := (↑m : Int).toNat) (Reads.row (i := 1) rfl) encR_len rfl rfl rfl (by omega) rfl rfl rfl rfl) rfl rfl rfl ?_
        refine ExL.free (fr_load rfl rfl rfl rfl (by first | exact cellN (Reads.row (i := 1) rfl) encR_len zR 1 rfl (by omega) rfl | exact cellF (Reads.row (i := 1) rfl) encR_len zR 1 rfl (by omega) rfl)) rfl rfl rfl ?_
        refine ExL.pures 1 rfl ?_
        refine ExL.nil ?_
        refine Ex.region (ExL.pures 2 rfl ?_)
        refine ExL.op rfl (op_storeC (i := 0) rfl rfl rfl rfl rfl rfl rfl rfl rfl rfl ?_)
        refine ExL.nil ?_
        refine Ex.region (ExL.pures 1 rfl ?_)
        refine ExL.free (by first | exact fr_add64 rfl rfl rfl (by omega) | exact fr_add rfl rfl rfl) rfl rfl rfl ?_
        refine ExL.pures 1 rfl ?_
        refine ExL.nil ?_
        refine Hand.mk (m + 1) 4 [0, 1, 2, 3] ⟨agI (by first | (rw [bst_y (by omega)]) | (rw [bst_n (by omega)])), agI (by first | (rw [bst_y (by omega)]) | (rw [bst_n (by omega)])), rfl, trivial⟩ ⟨rfl, rfl, rfl, rfl, rfl, rfl, trivial⟩ (by first | (rw [bst_y (by omega), Int.one_mul]; rfl) | (rw [bst_n (by omega)]; first | done | rfl)) rfl (by omega) (by omega)
      · refine ExL.pures 4 rfl ?_
        refine ExL.free (fr_load rfl rfl rfl rfl (CellO.blk (i := 0) rfl rfl)) rfl rfl rfl ?_
        refine ExL.eql rfl rfl rfl rfl rfl rfl (fun h8 => ?_) (fun h8 => ?_)
        · refine ExL.pures 3 rfl ?_
          refine ExL.free (fr_indexAddr (sz := 3) rfl rfl rfl rfl rfl rfl (by omega)) rfl rfl rfl ?_
          refine ExL.free (fr_fieldAddrF (i := (↑m : Int).toNat) (Reads.row (i := 1) rfl) encR_len rfl rfl rfl (by omega) rfl rfl rfl rfl) rfl rfl rfl ?_
          refine ExL.free (fr_load rfl rfl rfl rfl (by first | exact cellN (Reads.row (i := 1) rfl) encR_len zR 1 rfl (by omega) rfl | exact cellF (Reads.row (i := 1) rfl) encR_len zR 1 rfl (by omega) rfl)) rfl rfl rfl ?_
          refine ExL.pures 1 rfl ?_
          refine ExL.lss rfl rfl rfl rfl rfl rfl (fun h9 => ?_) (fun h9 => ?_)
          · refine ExL.pures 2 rfl ?_
            refine ExL.nil ?_
            refine Ex.cond_t rfl ?_
            refine Ex.regSeq (ExL.pures 2 rfl ?_)
            refine ExL.nil ?_
            refine Ex.regSeq (ExL.pures 2 rfl ?_)
            refine ExL.free (fr_indexAddr (sz := 3) rfl rfl rfl rfl rfl rfl (by omega)) rfl rfl rfl ?_
            refine ExL.free (fr_fieldAddrF (i := (↑m : Int).toNat) (Reads.row (i := 1) rfl) encR_len rfl rfl rfl (by omega) rfl rfl rfl rfl) rfl rfl rfl ?_
            refine ExL.free (fr_load rfl rfl rfl rfl (by first | exact cellN (Reads.row (i := 1) rfl) encR_len zR 1 rfl (by omega) rfl | exact cellF (Reads.row (i := 1) rfl) encR_len zR 1 rfl (by omega) rfl)) rfl rfl rfl ?_
            refine ExL.pures 1 rfl ?_
            refine ExL.nil ?_
            refine Ex.region (ExL.pures 2 rfl ?_)
            refine ExL.op rfl (op_storeC (i := 0) rfl rfl rfl rfl rfl rfl rfl rfl rfl rfl ?_)
            refine ExL.nil ?_
            refine Ex.region (ExL.pures 1 rfl ?_)
            refine ExL.free (by first | exact fr_add64 rfl rfl rfl (by omega) | exact fr_add rfl rfl rfl) rfl rfl rfl ?_
            refine ExL.pures 1 rfl ?_
            refine ExL.nil ?_
            refine Hand.mk (m + 1) 4 [0, 1, 2, 3] ⟨agI (by first | (rw [bst_y (by omega)]) | (rw [bst_n (by omega)])), agI (by first | (rw [bst_y (by omega)]) | (rw [bst_n (by omega)])), rfl, trivial⟩ ⟨rfl, rfl, rfl, rfl, rfl, rfl, trivial⟩ (by first | (rw [bst_y (by omega), Int.one_mul]; rfl) | (rw [bst_n (by omega)]; first | done | rfl)) rfl (by omega) (by omega)
          · refine ExL.pures 2 rfl ?_
            refine ExL.nil ?_
            refine Ex.cond_f rfl ?_
            refine Ex.skip ?_
            refine Ex.region (ExL.pures 1 rfl ?_)
            refine ExL.free (by first | exact fr_add64 rfl rfl rfl (by omega) | exact fr_add rfl rfl rfl) rfl rfl rfl ?_
            refine ExL.pures 1 rfl ?_
            refine ExL.nil ?_
            refine Hand.mk (m + 1) 4 [0, 1, 2, 3] ⟨agI (by first | (rw [bst_y (by omega)]) | (rw [bst_n (by omega)])), agI (by first | (rw [bst_y (by omega)]) | (rw [bst_n (by omega)])), rfl, trivial⟩ ⟨rfl, rfl, rfl, rfl, rfl, rfl, trivial⟩ (by first | (rw [bst_y (by omega), Int.one_mul]; rfl) | (rw [bst_n (by omega)]; first | done | rfl)) rfl (by omega) (by omega)
        · refine ExL.pures 10 rfl ?_
          refine ExL.nil ?_
          refine Ex.cond_f rfl ?_
          refine Ex.skip ?_
          refine Ex.region (ExL.pures 1 rfl ?_)
          refine ExL.free (by first | exact fr_add64 rfl rfl rfl (by omega) | exact fr_add rfl rfl rfl) rfl rfl rfl ?_
          refine ExL.pures 1 rfl ?_
          refine ExL.nil ?_
          refine Hand.mk (m + 1) 4 [0, 1, 2, 3] ⟨agI (by first | (rw [bst_y (by omega)]) | (rw [bst_n (by omega)])), agI (by first | (rw [bst_y (by omega)]) | (rw [bst_n (by omega)])), rfl, trivial⟩ ⟨rfl, rfl, rfl, rfl, rfl, rfl, trivial⟩ (by first | (rw [bst_y (by omega), Int.one_mul]; rfl) | (rw [bst_n (by omega)]; first | done | rfl)) rfl (by omega) (by omega)
  · refine ExL.nil ?_
    refine Ex.cond_f rfl ?_
    refine Ex.exit ?_
    obtain rfl : m = l.length := (by omega)
    have hrl := rstL_len (fitsF s l f) l.length
    refine Ex.seq ?_
    refine Ex.block ?_
    refine Ex.nilRow 2 1 ?_
    refine Ex.nilRow 2 1 ?_
    refine Ex.loopK (X := PSt) (fun q => [(9, .int .i64 (ats (fitsF s l f) l.length q.j))]) (fun q => [.blk b3 [.slice q.A1 (kL (fitsF s l f) l.length q.j).length q.c1, .slice q.A2 (bL (fitsF s l f) l.length q.j).length q.c2, .int .i64 (bstV (fitsF s l f) l.length l.length).cost] 69, .row (.slice q.A1 (kL (fitsF s l f) l.length q.j).length q.c1) 2 1 (kL (fitsF s l f) l.length q.j).length ((kL (fitsF s l f) l.length q.j).flatMap (eI .i64)), .row (.slice q.A2 (bL (fitsF s l f) l.length q.j).length q.c2) 2 1 (bL (fitsF s l f) l.length q.j).length ((bL (fitsF s l f) l.length q.j).flatMap (eI .i64))]) (fun q => q.j ≤ l.length + 1) (fun q => muA l.length (ats (fitsF s l f) l.length q.j)) ⟨0, none, 0, none, 0⟩ [(0, _), (1, _), (5, _), (6, _), (7, _), (8, _)] [_, _, _] 6 [2, 0, 1, 3, 4, 5] ⟨rfl, trivial⟩ ⟨rfl, rfl, rfl, rfl, rfl, rfl, trivial⟩ (rfl) rfl (by dsimp only; omega) (fun q hI => ?_)
    have hI : q.j ≤ l.length + 1 := hI
    have hab := ats_bd (fitsF s l f) l.length q.j
    have hkl := kL_len (fitsF s l f) l.length q.j
    have hbl := bL_len (fitsF s l f) l.length q.j
    refine Ex.seq ?_
    refine Ex.regSeq (ExL.pures 1 rfl ?_)
    refine ExL.geq rfl rfl rfl rfl rfl rfl (fun h10 => ?_) (fun h10 => ?_)
    · refine ExL.nil ?_
      refine Ex.cond_t rfl ?_
      refine Ex.skip ?_
      refine Ex.block ?_
      have hj0 : ¬ (ats (fitsF s l f) l.length q.j) < 0 := by omega
      have hj1 := j_le hj0
      have hmu := hab
      obtain ⟨a, ha⟩ : ∃ a : Nat, (ats (fitsF s l f) l.length q.j) = (a : Int) := ⟨(ats (fitsF s l f) l.length q.j).toNat, by omega⟩
      have hnx : ats (fitsF s l f) l.length (q.j + 1) = ((rstL (fitsF s l f) l.length).getD a zR).next := by rw [ats, ha, nxt_nat]
      rw [ha]
      refine Ex.regSeq (ExL.pures 1 rfl ?_)
      refine ExL.free (fr_load rfl rfl rfl rfl (CellO.blk (i := 0) rfl rfl)) rfl rfl rfl ?_
      refine ExL.pures 1 rfl ?_
      refine ExL.op rfl (op_buildSlice (sz := 1) rfl rfl rfl rfl rfl rfl rfl rfl (by decide) rfl rfl rfl (fun r11 => ?_))
      refine ExL.op rfl (op_append (sz := 1) (bytes := 8) (i := 2) rfl rfl rfl rfl (Reads.row (i := 0) rfl) rfl (fun e => nomatch e) rfl rfl rfl rfl (by constructor <;> first | omega | (unfold maxLen; omega)) rfl rfl (fun A12 cA12 => ?_))
      refine ExL.pures 1 rfl ?_
      refine ExL.op rfl (op_storeC (i := 1) rfl rfl rfl rfl rfl rfl rfl rfl rfl rfl ?_)
      refine ExL.nil ?_
      refine Ex.regSeq (ExL.pures 2 rfl ?_)
      refine ExL.free (fr_indexAddr (sz := 3) rfl rfl rfl rfl rfl rfl (by omega)) rfl rfl rfl ?_
      refine ExL.free (fr_fieldAddrF (i := (↑a : Int).toNat) (Reads.row (i := 4) rfl) encR_len rfl rfl rfl (by omega) rfl rfl rfl rfl) rfl rfl rfl ?_
      refine ExL.free (fr_load rfl rfl rfl rfl (by first | exact cellN (Reads.row (i := 4) rfl) encR_len zR 2 rfl (by omega) rfl | exact cellF (Reads.row (i := 4) rfl) encR_len zR 2 rfl (by omega) rfl)) rfl rfl rfl ?_
      refine ExL.pures 1 rfl ?_
      refine ExL.nil ?_
      refine Ex.seq ?_
      have hrb := rst_bd (fit := (fitsF s l f)) (n := l.length) (i := a) (by omega)
      refine Ex.regSeq (ExL.pures 1 rfl ?_)
      refine ExL.geq rfl rfl rfl rfl rfl rfl (fun h14 => ?_) (fun h14 => ?_)
      · refine ExL.pures 3 rfl ?_
        refine ExL.free (fr_loadN rfl rfl rfl rfl rfl (SegO.whole (i := 6) rfl)) rfl rfl rfl ?_
        refine ExL.pures 2 rfl ?_
        refine ExL.op rfl (op_ret rfl rfl rfl (c_l04FitsI s (by assumption) _ _ (by omega) l _ _ (by omega) (by assumption) f (by assumption) ↑a ((rstL (fitsF s l f) l.length).getD a zR).next (by omega) (by omega)) (fun w hw => ⟨Reads.get (Reads.old hs) w hw, Reads.get (Reads.old hl) w hw⟩) rfl rfl (fun x15 hx15 => ?_))
        refine ExL.pures 2 rfl ?_
        refine ExL.nil ?_
        refine Ex.cond rfl (fun hb16 => ?_) (fun hb16 => ?_)
        · replace hb16 := nb_t hb16
          refine Ex.region (ExL.pures 1 rfl ?_)
          refine ExL.free (fr_load rfl rfl rfl rfl (CellO.blk (i := 1) rfl rfl)) rfl rfl rfl ?_
          refine ExL.pures 1 rfl ?_
          refine ExL.op rfl (op_buildSlice (sz := 1) rfl rfl rfl rfl rfl rfl rfl rfl (by decide) rfl rfl rfl (fun r17 => ?_))
          refine ExL.op rfl (op_append (sz := 1) (bytes := 8) (i := 4) rfl rfl rfl rfl (Reads.row (i := 0) rfl) rfl (fun e => nomatch e) rfl rfl rfl rfl (by constructor <;> first | omega | (unfold maxLen; omega)) rfl rfl (fun A18 cA18 => ?_))
          refine ExL.pures 1 rfl ?_
          refine ExL.op rfl (op_storeC (i := 2) rfl rfl rfl rfl rfl rfl rfl rfl rfl rfl ?_)
          refine ExL.nil ?_
          refine Ex.region (ExL.pures 2 rfl ?_)
          refine ExL.nil ?_
          refine Hand.mk ((⟨q.j + 1, A12, cA12, A18, cA18⟩ : PSt)) 8 [2, 3, 4, 5, 6, 7] ⟨agI (by rw [hnx]), trivial⟩ ⟨rfl, rfl, rfl, rfl, rfl, rfl, trivial⟩ (by first | (rw [kL_y hj0, bL_y hj0 (by rw [hnx]; omega) (by rw [hnx, ha]; simpa using ‹fitsF s l f _ _ = false›), hnx, ha, List.length_append, List.length_append, List.flatMap_append, List.flatMap_append]; rfl) | (rw [kL_y hj0, bL_n hj0 (by rw [hnx, ha]; rintro ⟨q1, q2⟩; simp at q2; first | omega | simp_all), ha, List.length_append, List.flatMap_append]; rfl)) rfl ((by dsimp only; omega)) ((by show muA _ (ats _ _ (q.j + 1)) < muA _ (ats _ _ q.j); exact mu_lt (by omega) (by omega) (nxt_bd (by omega) (by omega))))
        · replace hb16 := nb_f hb16
          refine Ex.skip ?_
          refine Ex.region (ExL.pures 2 rfl ?_)
          refine ExL.nil ?_
          refine Hand.mk ((⟨q.j + 1, A12, cA12, q.A2, q.c2⟩ : PSt)) 7 [1, 2, 3, 4, 5, 6] ⟨agI (by rw [hnx]), trivial⟩ ⟨rfl, rfl, rfl, rfl, rfl, rfl, trivial⟩ (by first | (rw [kL_y hj0, bL_y hj0 (by rw [hnx]; omega) (by rw [hnx, ha]; simpa using ‹fitsF s l f _ _ = false›), hnx, ha, List.length_append, List.length_append, List.flatMap_append, List.flatMap_append]; rfl) | (rw [kL_y hj0, bL_n hj0 (by rw [hnx, ha]; rintro ⟨q1, q2⟩; simp at q2; first | omega | simp_all), ha, List.length_append, List.flatMap_append]; rfl)) rfl ((by dsimp only; omega)) ((by show muA _ (ats _ _ (q.j + 1)) < muA _ (ats _ _ q.j); exact mu_lt (by omega) (by omega) (nxt_bd (by omega) (by omega))))
      · refine ExL.pures 9 rfl ?_
        refine ExL.nil ?_
        refine Ex.cond_f rfl ?_
        refine Ex.skip ?_
        refine Ex.region (ExL.pures 2 rfl ?_)
        refine ExL.nil ?_
        refine Hand.mk ((⟨q.j + 1, A12, cA12, q.A2, q.c2⟩ : PSt)) 7 [1, 2, 3, 4, 5, 6] ⟨agI (by rw [hnx]), trivial⟩ ⟨rfl, rfl, rfl, rfl, rfl, rfl, trivial⟩ (by first | (rw [kL_y hj0, bL_y hj0 (by rw [hnx]; omega) (by rw [hnx, ha]; simpa using ‹fitsF s l f _ _ = false›), hnx, ha, List.length_append, List.length_append, List.flatMap_append, List.flatMap_append]; rfl) | (rw [kL_y hj0, bL_n hj0 (by rw [hnx, ha]; rintro ⟨q1, q2⟩; simp at q2; first | omega | simp_all), ha, List.length_append, List.flatMap_append]; rfl)) rfl ((by dsimp only; omega)) ((by show muA _ (ats _ _ (q.j + 1)) < muA _ (ats _ _ q.j); exact mu_lt (by omega) (by omega) (nxt_bd (by omega) (by omega))))
    · refine ExL.nil ?_
      refine Ex.cond_f rfl ?_
      refine Ex.exit ?_
      obtain ⟨hk1, hk2⟩ := st_end (fit := (fitsF s l f)) (n := l.length) (j := q.j) (by omega) hI
      rw [hk1, hk2]
      refine Ex.regSeq (ExL.pures 0 rfl ?_)
      refine ExL.free (fr_loadN rfl rfl rfl rfl rfl (SegO.whole (i := 0) rfl)) rfl rfl rfl ?_
      refine ExL.op rfl (op_storeC (i := 4) rfl rfl rfl rfl rfl rfl rfl rfl rfl rfl ?_)
      refine ExL.nil ?_
      refine Ex.ret ?_
      refine RetQ.mk ((q.A1, q.c1), (q.A2, q.c2)) rfl (.cell rfl (.many rfl rfl rfl (SegO.whole (i := 4) rfl)) .nil) (rfl) [1, 2] (rfl) rfl (trivial)
end Go.Proofs.Ytepahnikcojepaa
