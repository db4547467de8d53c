/- What these functions of the program hand back, each proved by walking its operations. -/
import Derived.Test.YthfbmkfbmmjchaaDoorProg
import Derived.Test.YthfbmkfbmmjchaaDoorFw
import Derived.Test.YthfbmkfbmmjchaaDoorGC
set_option linter.unusedVariables false
set_option linter.unusedSimpArgs false
set_option maxRecDepth 4000
namespace Go.Proofs.YthfbmkfbmmjchaaDoor
open Go Go.Sx Go.RowKit Go.W Go.Proofs
attribute [local irreducible] Ex ExL ExD Op1 Free RetQ MutQ Reads CellO SegO LoadsAs
theorem e_82 : Enters Tryd.prog 82 := Enters.of Tryd.func82 rfl
theorem c_l07Check (n : Int) (hn : 0 ≤ n ∧ n ≤ 9223372036854775807) (a : Dig) (ha : Nums 255 a.l) : Ret Tryd.prog 82 [.int .i64 n, .agg (encD a).toArray] (fun w => True) (fun x : Unit => .int .u16 (check n a.l)) (fun x => []) (fun x => True) := by
  refine Ret.of e_82 Tryd.func82 rfl Tryd.ntmps82 rfl rfl (fun w hpre => ?_)
  refine Ex.regSeq (ExL.pures 0 rfl ?_)
  refine ExL.op rfl (op_box rfl rfl rfl rfl rfl (fun b1 => ?_))
  refine ExL.pures 1 rfl ?_
  refine ExL.nil ?_
  refine Ex.regSeq (ExL.pures 1 rfl ?_)
  refine ExL.nil ?_
  refine Ex.seq ?_
  refine Ex.regSeq (ExL.pures 1 rfl ?_)
  refine ExL.nil ?_
  refine Ex.block ?_
  refine Ex.loopK (X := Nat) (fun k => [(5, .int .u16 (chk1 n k)), (6, .int .i64 k)]) (fun k => []) (fun k => k ≤ 4) (fun k => 4 - k) 0 [(0, _), (3, _), (4, _)] [_] 1 [0] ⟨rfl, rfl, trivial⟩ ⟨rfl, rfl, rfl, trivial⟩ (rfl) rfl (by omega) (fun k hI => ?_)
  have hI : k ≤ 4 := hI
  have hd := Int.ediv_nonneg hn.1 (show (0 : Int) ≤ 2 ^ min (8 * (k : Int)).toNat IntKind.i64.bits from Int.pow_nonneg (by omega))
  have hd2 := Int.ediv_le_self (2 ^ min (8 * (k : Int)).toNat IntKind.i64.bits) hn.1
  refine Ex.seq ?_
  refine Ex.regSeq (ExL.pures 1 rfl ?_)
  refine ExL.lss rfl rfl rfl rfl rfl rfl (fun h2 => ?_) (fun h2 => ?_)
  · refine ExL.nil ?_
    refine Ex.cond_t rfl ?_
    refine Ex.skip ?_
    refine Ex.seq ?_
    refine Ex.block ?_
    refine Ex.region (ExL.pures 1 rfl ?_)
    refine ExL.free (fr_mul rfl rfl rfl) rfl rfl rfl ?_
    refine ExL.pures 2 rfl ?_
    refine ExL.free (by first | exact fr_mul64 rfl rfl rfl (by omega) | exact fr_mul rfl rfl rfl) rfl rfl rfl ?_
    refine ExL.free (by first | exact fr_conv_u64 rfl rfl rfl rfl (by omega) | exact fr_conv rfl rfl rfl rfl) rfl rfl rfl ?_
    refine ExL.free (fr_shr rfl rfl rfl (by omega)) rfl rfl rfl ?_
    refine ExL.free (by first | exact fr_and255 rfl rfl rfl (by omega) | exact fr_bits rfl rfl rfl (by simp)) rfl rfl rfl ?_
    refine ExL.free (by first | exact fr_conv_u16 rfl rfl rfl rfl (by omega) | exact fr_conv rfl rfl rfl rfl) rfl rfl rfl ?_
    refine ExL.free (fr_add rfl rfl rfl) rfl rfl rfl ?_
    refine ExL.pures 1 rfl ?_
    refine ExL.nil ?_
    refine Ex.region (ExL.pures 1 rfl ?_)
    refine ExL.free (by first | exact fr_add64 rfl rfl rfl (by omega) | exact fr_add rfl rfl rfl) rfl rfl rfl ?_
    refine ExL.pures 1 rfl ?_
    refine ExL.nil ?_
    refine Hand.mk (k + 1) 1 [0] ⟨agI (by rw [shr_256 (by omega)]; exact wrap_step _ _), rfl, trivial⟩ ⟨rfl, rfl, rfl, trivial⟩ (rfl) rfl (by omega) (by omega)
  · refine ExL.nil ?_
    refine Ex.cond_f rfl ?_
    refine Ex.exit ?_
    obtain rfl : k = 4 := (by omega)
    refine Ex.seq ?_
    refine Ex.regSeq (ExL.pures 1 rfl ?_)
    refine ExL.nil ?_
    refine Ex.block ?_
    refine Ex.loopK (X := Nat) (fun k => [(5, .int .u16 (chk2 (chk1 n 4) (a.l.take k))), (7, .int .i64 k)]) (fun k => []) (fun k => k ≤ 8) (fun k => 8 - k) 0 [(3, _), (4, _)] [_] 1 [0] ⟨rfl, rfl, trivial⟩ ⟨rfl, rfl, trivial⟩ (rfl) rfl (by omega) (fun k hI => ?_)
    have hI : k ≤ 8 := hI
    have hx := ha.at_ (by omega) k
    refine Ex.seq ?_
    refine Ex.regSeq (ExL.pures 1 rfl ?_)
    refine ExL.lss rfl rfl rfl rfl rfl rfl (fun h3 => ?_) (fun h3 => ?_)
    · refine ExL.nil ?_
      refine Ex.cond_t rfl ?_
      refine Ex.skip ?_
      refine Ex.seq ?_
      refine Ex.block ?_
      refine Ex.region (ExL.pures 1 rfl ?_)
      refine ExL.free (fr_mul rfl rfl rfl) rfl rfl rfl ?_
      refine ExL.pures 1 rfl ?_
      refine ExL.free (fr_indexAddr_b (sz := 1) rfl rfl rfl rfl rfl (by omega)) rfl rfl rfl ?_
      refine ExL.free (fr_load rfl rfl rfl rfl (CellO.blk (i := 0) rfl (blkG (eI_len .u8) 0 rfl (by rw [dig_len]; omega) rfl))) rfl rfl rfl ?_
      refine ExL.free (by first | exact fr_conv_u16 rfl rfl rfl rfl (by omega) | exact fr_conv rfl rfl rfl rfl) rfl rfl rfl ?_
      refine ExL.free (fr_add rfl rfl rfl) rfl rfl rfl ?_
      refine ExL.pures 1 rfl ?_
      refine ExL.nil ?_
      refine Ex.region (ExL.pures 1 rfl ?_)
      refine ExL.free (by first | exact fr_add64 rfl rfl rfl (by omega) | exact fr_add rfl rfl rfl) rfl rfl rfl ?_
      refine ExL.pures 1 rfl ?_
      refine ExL.nil ?_
      refine Hand.mk (k + 1) 1 [0] ⟨agI ((wrap_step _ _).trans (chk2_snoc _ _ k (by rw [dig_len]; omega)).symm), rfl, trivial⟩ ⟨rfl, rfl, trivial⟩ (rfl) rfl (by omega) (by omega)
    · refine ExL.nil ?_
      refine Ex.cond_f rfl ?_
      refine Ex.exit ?_
      obtain rfl : k = 8 := (by omega)
      refine Ex.regSeq (ExL.pures 2 rfl ?_)
      refine ExL.nil ?_
      refine Ex.ret ?_
      refine RetQ.mk () rfl (.tmp rfl .nil) (rfl) [] (rfl) rfl (trivial)
theorem e_105 : Enters Tryd.prog 105 := Enters.of Tryd.func105 rfl
theorem c_put (b : Nat) (c n : Int) (hn : 0 ≤ n ∧ n ≤ 255) : Mut Tryd.prog 105 [.int .u8 n, .pointer (some ⟨b, 0, none⟩)] [.blk b [.int .u16 c] 47] (fun base w0 F => True) (fun x : Unit => .tuple #[]) (fun x => [.blk b [.int .u16 (W.step c n)] 47]) (fun x => True) := by
  refine Mut.of e_105 Tryd.func105 rfl Tryd.ntmps105 rfl rfl (fun base w0 F hfr => ?_)
  refine Ex.region (ExL.pures 0 rfl ?_)
  refine ExL.free (fr_load rfl rfl rfl rfl (CellO.blk (i := 0) rfl rfl)) rfl rfl rfl ?_
  refine ExL.free (fr_mul rfl rfl rfl) rfl rfl rfl ?_
  refine ExL.pures 1 rfl ?_
  refine ExL.free (by first | exact fr_conv_u16 rfl rfl rfl rfl (by omega) | exact fr_conv rfl rfl rfl rfl) rfl rfl rfl ?_
  refine ExL.free (fr_add rfl rfl rfl) rfl rfl rfl ?_
  refine ExL.op rfl (op_storeC (i := 0) rfl rfl rfl rfl rfl rfl rfl rfl rfl rfl ?_)
  refine ExL.nil ?_
  refine MutQ.mk () rfl .nil (rfl) 1 [0] (pkB (congrArg (fun z => [Value.int .u16 z]) (wrap_step _ _))) rfl (trivial)
theorem e_89 : Enters Tryd.prog 89 := Enters.of Tryd.func89 rfl
theorem c_check (n : Int) (hn : 0 ≤ n ∧ n ≤ 9223372036854775807) (a : Dig) (ha : Nums 255 a.l) : Ret Tryd.prog 89 [.int .i64 n, .agg (encD a).toArray] (fun w => True) (fun x : Unit => .int .u16 (check n a.l)) (fun x => []) (fun x => True) := by
  refine Ret.of e_89 Tryd.func89 rfl Tryd.ntmps89 rfl rfl (fun w hpre => ?_)
  refine Ex.regSeq (ExL.pures 0 rfl ?_)
  refine ExL.op rfl (op_box rfl rfl rfl rfl rfl (fun b1 => ?_))
  refine ExL.pures 1 rfl ?_
  refine ExL.nil ?_
  refine Ex.regSeq (ExL.pures 0 rfl ?_)
  refine ExL.op rfl (op_alloc rfl rfl rfl rfl rfl (fun b2 => ?_))
  refine ExL.op rfl (op_storeC (i := 0) rfl rfl rfl rfl rfl rfl rfl rfl rfl rfl ?_)
  refine ExL.nil ?_
  refine Ex.regSeq (ExL.pures 0 rfl ?_)
  refine ExL.free (fr_makeFunc rfl rfl rfl) rfl rfl rfl ?_
  refine ExL.pures 1 rfl ?_
  refine ExL.nil ?_
  refine Ex.seq ?_
  refine Ex.regSeq (ExL.pures 1 rfl ?_)
  refine ExL.nil ?_
  refine Ex.block ?_
  refine Ex.loopK (X := Nat) (fun k => [(0, .int .i64 (n / 256 ^ k)), (10, .int .i64 k)]) (fun k => [.blk b2 [.int .u16 (chk1 n k)] 47]) (fun k => k ≤ 4) (fun k => 4 - k) 0 [(3, _), (4, _), (5, _), (6, _)] [_] 2 [0, 1] ⟨agI (by simp), rfl, trivial⟩ ⟨rfl, rfl, rfl, rfl, trivial⟩ (rfl) rfl (by omega) (fun k hI => ?_)
  have hI : k ≤ 4 := hI
  have hd := Int.ediv_nonneg hn.1 (show (0 : Int) ≤ 256 ^ k from Int.pow_nonneg (by omega))
  have hu : 0 ≤ IntKind.u8.wrap (n / 256 ^ k) ∧ IntKind.u8.wrap (n / 256 ^ k) ≤ 255 := (by rw [wrap_u8_mod]; omega)
  refine Ex.regSeq (ExL.pures 0 rfl ?_)
  refine ExL.lss rfl rfl rfl rfl rfl rfl (fun h3 => ?_) (fun h3 => ?_)
  · refine ExL.nil ?_
    refine Ex.seq ?_
    refine Ex.cond_t rfl ?_
    refine Ex.skip ?_
    refine Ex.seq ?_
    refine Ex.block ?_
    refine Ex.regSeq (ExL.pures 2 rfl ?_)
    refine ExL.free (by first | exact fr_conv_u8 rfl rfl rfl rfl (by omega) | exact fr_conv rfl rfl rfl rfl) rfl rfl rfl ?_
    refine ExL.op rfl (op_mut rfl rfl rfl (c_put _ _ _ (by omega)) (perm_at (i := 0) rfl) (trivial) rfl rfl (fun x4 hx4 => ?_))
    refine ExL.nil ?_
    refine Ex.region (ExL.pures 1 rfl ?_)
    refine ExL.free (fr_shr rfl rfl rfl (by omega)) rfl rfl rfl ?_
    refine ExL.pures 1 rfl ?_
    refine ExL.nil ?_
    refine Ex.region (ExL.pures 0 rfl ?_)
    refine ExL.free (by first | exact fr_add64 rfl rfl rfl (by omega) | exact fr_add rfl rfl rfl) rfl rfl rfl ?_
    refine ExL.pures 1 rfl ?_
    refine ExL.nil ?_
    refine Hand.mk (k + 1) 2 [0, 1] ⟨agI (div_256 _ _), rfl, trivial⟩ ⟨rfl, rfl, rfl, rfl, trivial⟩ (pkB (by rw [wrap_u8_mod]; rfl)) rfl (by omega) (by omega)
  · refine ExL.nil ?_
    refine Ex.seq ?_
    refine Ex.cond_f rfl ?_
    refine Ex.exit ?_
    obtain rfl : k = 4 := (by omega)
    refine Ex.seq ?_
    refine Ex.regSeq (ExL.pures 0 rfl ?_)
    refine ExL.free (fr_loadN rfl rfl rfl rfl rfl (SegO.whole (i := 1) rfl)) rfl rfl rfl ?_
    refine ExL.pures 1 rfl ?_
    refine ExL.nil ?_
    refine Ex.block ?_
    refine Ex.loopK (X := Nat) (fun k => [(20, .int .i64 k)]) (fun k => [.blk b2 [.int .u16 (chk2 (chk1 n 4) (a.l.take k))] 47]) (fun k => k ≤ 8) (fun k => 8 - k) 0 [(4, _), (5, _), (6, _), (19, _)] [] 2 [0] ⟨rfl, trivial⟩ ⟨rfl, rfl, rfl, rfl, trivial⟩ (rfl) rfl (by omega) (fun k hI => ?_)
    have hI : k ≤ 8 := hI
    have hx := ha.at_ (by omega) k
    refine Ex.regSeq (ExL.pures 0 rfl ?_)
    refine ExL.lss rfl rfl rfl rfl rfl rfl (fun h5 => ?_) (fun h5 => ?_)
    · refine ExL.nil ?_
      refine Ex.seq ?_
      refine Ex.cond_t rfl ?_
      refine Ex.skip ?_
      refine Ex.seq ?_
      refine Ex.block ?_
      refine Ex.regSeq (ExL.pures 0 rfl ?_)
      refine ExL.free (fr_index (sz := 1) rfl rfl rfl rfl rfl rfl rfl (by omega) (idxG (eI_len .u8) 0 rfl (by rw [dig_len]; omega) rfl)) rfl rfl rfl ?_
      refine ExL.pures 1 rfl ?_
      refine ExL.nil ?_
      refine Ex.region (ExL.pures 2 rfl ?_)
      refine ExL.op rfl (op_mut rfl rfl rfl (c_put _ _ _ (by omega)) (perm_at (i := 0) rfl) (trivial) rfl rfl (fun x6 hx6 => ?_))
      refine ExL.nil ?_
      refine Ex.region (ExL.pures 0 rfl ?_)
      refine ExL.free (by first | exact fr_add64 rfl rfl rfl (by omega) | exact fr_add rfl rfl rfl) rfl rfl rfl ?_
      refine ExL.pures 1 rfl ?_
      refine ExL.nil ?_
      refine Hand.mk (k + 1) 1 [0] ⟨rfl, trivial⟩ ⟨rfl, rfl, rfl, rfl, trivial⟩ (pkB (by rw [chk2_snoc _ _ k (by rw [dig_len]; omega)])) rfl (by omega) (by omega)
    · refine ExL.nil ?_
      refine Ex.seq ?_
      refine Ex.cond_f rfl ?_
      refine Ex.exit ?_
      obtain rfl : k = 8 := (by omega)
      refine Ex.regSeq (ExL.pures 0 rfl ?_)
      refine ExL.free (fr_load rfl rfl rfl rfl (CellO.blk (i := 0) rfl rfl)) rfl rfl rfl ?_
      refine ExL.pures 1 rfl ?_
      refine ExL.nil ?_
      refine Ex.ret ?_
      refine RetQ.mk () rfl (.tmp rfl .nil) (rfl) [] (rfl) rfl (trivial)
end Go.Proofs.YthfbmkfbmmjchaaDoor
