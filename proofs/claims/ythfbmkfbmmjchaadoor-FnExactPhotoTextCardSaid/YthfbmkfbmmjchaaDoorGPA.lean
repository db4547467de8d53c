/- What these functions of the program hand back, each proved by walking its operations. -/
import Derived.Test.YthfbmkfbmmjchaaDoorProg
import Derived.Test.YthfbmkfbmmjchaaDoorFw
import Derived.Test.YthfbmkfbmmjchaaDoorM37
import Derived.Test.YthfbmkfbmmjchaaDoorGV
set_option linter.unusedVariables false
set_option linter.unusedSimpArgs false
set_option maxRecDepth 4000
namespace Go.Proofs.YthfbmkfbmmjchaaDoor
open Go Go.Sx Go.RowKit Go.W Go.Proofs
attribute [local irreducible] Ex ExL ExD Op1 Free RetQ MutQ Reads CellO SegO LoadsAs
theorem e_39 : Enters Tryd.prog 39 := Enters.of Tryd.func39 rfl
theorem c_toMarks (a : VMk) : Ret Tryd.prog 39 [.agg (encMk a).toArray] (fun w => True) (fun x : Unit => .agg (encMk a).toArray) (fun x => []) (fun x => True) := by
  refine Ret.of e_39 Tryd.func39 rfl Tryd.ntmps39 rfl rfl (fun w hpre => ?_)
  refine Ex.regSeq (ExL.pures 0 rfl ?_)
  refine ExL.op rfl (op_box rfl rfl rfl rfl rfl (fun b1 => ?_))
  refine ExL.op rfl (op_alloc rfl rfl rfl rfl rfl (fun b2 => ?_))
  refine ExL.nil ?_
  refine Ex.regSeq (ExL.pures 0 rfl ?_)
  refine ExL.op rfl (op_alloc rfl rfl rfl rfl rfl (fun b3 => ?_))
  refine ExL.nil ?_
  refine Ex.seq ?_
  refine Ex.regSeq (ExL.pures 1 rfl ?_)
  refine ExL.nil ?_
  refine Ex.block ?_
  refine Ex.loopK (X := Nat) (fun k => [(4, .int .i64 k)]) (fun k => [.blk b3 ((Sx.part 0 a.l k).flatMap (eI .u64)) 36]) (fun k => k ≤ 2) (fun k => 2 - k) 0 [(1, _), (2, _), (3, _)] [_, _] 3 [0, 1, 2] ⟨rfl, trivial⟩ ⟨rfl, rfl, rfl, trivial⟩ (rfl) rfl (by omega) (fun k hI => ?_)
  have hI : k ≤ 2 := hI
  refine Ex.seq ?_
  refine Ex.regSeq (ExL.pures 1 rfl ?_)
  refine ExL.lss rfl rfl rfl rfl rfl rfl (fun h4 => ?_) (fun h4 => ?_)
  · refine ExL.nil ?_
    refine Ex.cond_t rfl ?_
    refine Ex.skip ?_
    refine Ex.seq ?_
    refine Ex.block ?_
    refine Ex.region (ExL.pures 2 rfl ?_)
    refine ExL.free (fr_indexAddr_b (sz := 1) rfl rfl rfl rfl rfl (by omega)) rfl rfl rfl ?_
    refine ExL.free (fr_load rfl rfl rfl rfl (CellO.blk (i := 2) rfl (blkG (eI_len .u64) 0 rfl (by rw [mk_len]; omega) rfl))) rfl rfl rfl ?_
    refine ExL.free (fr_indexAddr_b (sz := 1) rfl rfl rfl rfl rfl (by omega)) rfl rfl rfl ?_
    refine ExL.op rfl (op_store (i := 0) rfl rfl rfl rfl rfl rfl rfl rfl (room (eI_len .u64) (k := k) (part_lt (by rw [mk_len]; omega) (by rw [mk_len]; omega)) (by simp) rfl) rfl ?_)
    refine ExL.nil ?_
    refine Ex.region (ExL.pures 1 rfl ?_)
    refine ExL.free (by first | exact fr_add64 rfl rfl rfl (by omega) | exact fr_add rfl rfl rfl) rfl rfl rfl ?_
    refine ExL.pures 1 rfl ?_
    refine ExL.nil ?_
    refine Hand.mk (k + 1) 3 [0, 1, 2] ⟨rfl, trivial⟩ ⟨rfl, rfl, rfl, trivial⟩ (pkB (part_put (eI_len .u64) 0 0 a.l k (by rw [mk_len]; omega) (by simp) rfl)) rfl (by omega) (by omega)
  · refine ExL.nil ?_
    refine Ex.cond_f rfl ?_
    refine Ex.exit ?_
    obtain rfl : k = 2 := (by omega)
    refine Ex.regSeq (ExL.pures 0 rfl ?_)
    refine ExL.free (fr_loadN rfl rfl rfl rfl rfl (SegO.whole (i := 0) rfl)) rfl rfl rfl ?_
    refine ExL.op rfl (op_storeC (i := 1) rfl rfl rfl rfl rfl rfl rfl rfl rfl rfl ?_)
    refine ExL.nil ?_
    refine Ex.ret ?_
    refine RetQ.mk () rfl (.cell rfl (.many rfl rfl rfl (SegO.whole (i := 1) rfl)) .nil) (rfl) [] (rfl) rfl (trivial)
theorem e_15 : Enters Tryd.prog 15 := Enters.of Tryd.func15 rfl
theorem c_toPhoto (a : VPh) : Ret Tryd.prog 15 [.agg (encPh a).toArray] (fun w => True) (fun x : Unit => .agg (encPh a).toArray) (fun x => []) (fun x => True) := by
  refine Ret.of e_15 Tryd.func15 rfl Tryd.ntmps15 rfl rfl (fun w hpre => ?_)
  refine Ex.regSeq (ExL.pures 0 rfl ?_)
  refine ExL.op rfl (op_box rfl rfl rfl rfl rfl (fun b1 => ?_))
  refine ExL.op rfl (op_alloc rfl rfl rfl rfl rfl (fun b2 => ?_))
  refine ExL.nil ?_
  refine Ex.regSeq (ExL.pures 0 rfl ?_)
  refine ExL.op rfl (op_alloc rfl rfl rfl rfl rfl (fun b3 => ?_))
  refine ExL.nil ?_
  refine Ex.seq ?_
  refine Ex.regSeq (ExL.pures 1 rfl ?_)
  refine ExL.nil ?_
  refine Ex.block ?_
  refine Ex.loopK (X := Nat) (fun k => [(4, .int .i64 k)]) (fun k => [.blk b3 ((Sx.part zMk a.l k).flatMap encMk) 38]) (fun k => k ≤ 8) (fun k => 8 - k) 0 [(1, _), (2, _), (3, _)] [_, _] 3 [0, 1, 2] ⟨rfl, trivial⟩ ⟨rfl, rfl, rfl, trivial⟩ (rfl) rfl (by omega) (fun k hI => ?_)
  have hI : k ≤ 8 := hI
  refine Ex.seq ?_
  refine Ex.regSeq (ExL.pures 1 rfl ?_)
  refine ExL.lss rfl rfl rfl rfl rfl rfl (fun h4 => ?_) (fun h4 => ?_)
  · refine ExL.nil ?_
    refine Ex.cond_t rfl ?_
    refine Ex.skip ?_
    refine Ex.seq ?_
    refine Ex.block ?_
    refine Ex.region (ExL.pures 2 rfl ?_)
    refine ExL.free (fr_indexAddr_b (sz := 2) rfl rfl rfl rfl rfl (by omega)) rfl rfl rfl ?_
    refine ExL.free (fr_loadN rfl rfl rfl rfl rfl (segB (i := 2) rfl encMk_len zMk (by rw [ph_len]; omega))) rfl rfl rfl ?_
    refine ExL.op rfl (op_ret rfl rfl rfl (c_toMarks (a.l.getD k zMk)) (fun _ _ => trivial) rfl rfl (fun x5 hx5 => ?_))
    refine ExL.free (fr_indexAddr_b (sz := 2) rfl rfl rfl rfl rfl (by omega)) rfl rfl rfl ?_
    refine ExL.op rfl (op_store (i := 0) rfl rfl rfl rfl rfl rfl rfl rfl (room encMk_len (k := k) (part_lt (by rw [ph_len]; omega) (by rw [ph_len]; omega)) (by simp) rfl) rfl ?_)
    refine ExL.nil ?_
    refine Ex.region (ExL.pures 1 rfl ?_)
    refine ExL.free (by first | exact fr_add64 rfl rfl rfl (by omega) | exact fr_add rfl rfl rfl) rfl rfl rfl ?_
    refine ExL.pures 1 rfl ?_
    refine ExL.nil ?_
    refine Hand.mk (k + 1) 3 [0, 1, 2] ⟨rfl, trivial⟩ ⟨rfl, rfl, rfl, trivial⟩ (pkB (part_put encMk_len zMk zMk a.l k (by rw [ph_len]; omega) (by simp) rfl)) rfl (by omega) (by omega)
  · refine ExL.nil ?_
    refine Ex.cond_f rfl ?_
    refine Ex.exit ?_
    obtain rfl : k = 8 := (by omega)
    refine Ex.regSeq (ExL.pures 0 rfl ?_)
    refine ExL.free (fr_loadN rfl rfl rfl rfl rfl (SegO.whole (i := 0) rfl)) rfl rfl rfl ?_
    refine ExL.op rfl (op_storeC (i := 1) rfl rfl rfl rfl rfl rfl rfl rfl rfl rfl ?_)
    refine ExL.nil ?_
    refine Ex.ret ?_
    refine RetQ.mk () rfl (.cell rfl (.many rfl rfl rfl (SegO.whole (i := 1) rfl)) .nil) (rfl) [] (rfl) rfl (trivial)
theorem e_75 : Enters Tryd.prog 75 := Enters.of Tryd.func75 rfl
theorem c_has (m : VMk) (hm : OkMk m) (d : Int) (hd : 0 ≤ d ∧ d ≤ 127) : Ret Tryd.prog 75 [.agg (encMk m).toArray, .int .i64 d] (fun w => True) (fun x : Unit => .bool (hasM m d.toNat)) (fun x => []) (fun x => True) := by
  refine Ret.of e_75 Tryd.func75 rfl Tryd.ntmps75 rfl rfl (fun w hpre => ?_)
  obtain ⟨d, rfl⟩ := Int.eq_ofNat_of_zero_le hd.1
  refine Ex.regSeq (ExL.pures 0 rfl ?_)
  refine ExL.op rfl (op_box rfl rfl rfl rfl rfl (fun b1 => ?_))
  refine ExL.pures 1 rfl ?_
  refine ExL.nil ?_
  refine Ex.regSeq (ExL.pures 1 rfl ?_)
  refine ExL.free (fr_quoW ((d / 64 : Nat) : Int) rfl rfl rfl (by omega) (quo64 (by omega))) rfl rfl rfl ?_
  refine ExL.free (fr_indexAddr_b (sz := 1) rfl rfl rfl rfl rfl (by omega)) rfl rfl rfl ?_
  refine ExL.free (fr_load rfl rfl rfl rfl (CellO.blk (i := 0) rfl (blkG (eI_len .u64) 0 rfl (by rw [mk_len]; omega) rfl))) rfl rfl rfl ?_
  refine ExL.pures 1 rfl ?_
  refine ExL.free (by first | exact fr_remP rfl rfl rfl (by omega) | exact fr_rem rfl rfl rfl (by omega)) rfl rfl rfl ?_
  refine ExL.free (fr_shr rfl rfl rfl (by omega)) rfl rfl rfl ?_
  refine ExL.free (by first | exact fr_and255 rfl rfl rfl (by omega) | exact fr_bits rfl rfl rfl (by simp)) rfl rfl rfl ?_
  refine ExL.free (fr_eql rfl rfl rfl) rfl rfl rfl ?_
  refine ExL.pures 1 rfl ?_
  refine ExL.nil ?_
  refine Ex.ret ?_
  refine RetQ.mk () rfl (.tmp rfl .nil) (tB (by first | exact has_dec hm (by omega) | (exfalso; omega))) [] (rfl) rfl (trivial)
theorem e_98 : Enters Tryd.prog 98 := Enters.of Tryd.func98 rfl
theorem c_l05Has (m : VMk) (hm : OkMk m) (d : Int) (hd : 0 ≤ d ∧ d ≤ 127) : Ret Tryd.prog 98 [.agg (encMk m).toArray, .int .i64 d] (fun w => True) (fun x : Unit => .bool (hasM m d.toNat)) (fun x => []) (fun x => True) := by
  refine Ret.of e_98 Tryd.func98 rfl Tryd.ntmps98 rfl rfl (fun w hpre => ?_)
  obtain ⟨d, rfl⟩ := Int.eq_ofNat_of_zero_le hd.1
  refine Ex.regSeq (ExL.pures 0 rfl ?_)
  refine ExL.op rfl (op_box rfl rfl rfl rfl rfl (fun b1 => ?_))
  refine ExL.pures 1 rfl ?_
  refine ExL.nil ?_
  refine Ex.regSeq (ExL.pures 1 rfl ?_)
  refine ExL.op rfl (op_ret rfl rfl rfl (c_l00In _ _ _) (fun _ _ => trivial) rfl rfl (fun x2 hx2 => ?_))
  refine ExL.pures 1 rfl ?_
  refine ExL.bool (d := 7) rfl (fun hb3 => ?_) (fun hb3 => ?_)
  · replace hb3 := of_decide_eq_true hb3
    refine ExL.pures 1 rfl ?_
    refine ExL.free (fr_quoW ((d / 64 : Nat) : Int) rfl rfl rfl (by omega) (quo64 (by omega))) rfl rfl rfl ?_
    refine ExL.free (fr_indexAddr_b (sz := 1) rfl rfl rfl rfl rfl (by omega)) rfl rfl rfl ?_
    refine ExL.free (fr_load rfl rfl rfl rfl (CellO.blk (i := 0) rfl (blkG (eI_len .u64) 0 rfl (by rw [mk_len]; omega) rfl))) rfl rfl rfl ?_
    refine ExL.pures 1 rfl ?_
    refine ExL.free (by first | exact fr_remP rfl rfl rfl (by omega) | exact fr_rem rfl rfl rfl (by omega)) rfl rfl rfl ?_
    refine ExL.free (by first | exact fr_conv_u64 rfl rfl rfl rfl (by omega) | exact fr_conv rfl rfl rfl rfl) rfl rfl rfl ?_
    refine ExL.free (fr_shr rfl rfl rfl (by omega)) rfl rfl rfl ?_
    refine ExL.free (by first | exact fr_and255 rfl rfl rfl (by omega) | exact fr_bits rfl rfl rfl (by simp)) rfl rfl rfl ?_
    refine ExL.free (fr_eql rfl rfl rfl) rfl rfl rfl ?_
    refine ExL.pures 2 rfl ?_
    refine ExL.nil ?_
    refine Ex.ret ?_
    refine RetQ.mk () rfl (.tmp rfl .nil) (tB (by first | exact has_dec hm (by omega) | (exfalso; omega))) [] (rfl) rfl (trivial)
  · replace hb3 := of_decide_eq_false hb3
    refine ExL.pures 12 rfl ?_
    refine ExL.nil ?_
    refine Ex.ret ?_
    refine RetQ.mk () rfl (.tmp rfl .nil) (tB (by first | exact has_dec hm (by omega) | (exfalso; omega))) [] (rfl) rfl (trivial)
theorem e_107 : Enters Tryd.prog 107 := Enters.of Tryd.func107 rfl
theorem c_l05Put (m : VMk) (hm : OkMk m) (d : Int) (hd : 0 ≤ d ∧ d ≤ 127) : Ret Tryd.prog 107 [.agg (encMk m).toArray, .int .i64 d] (fun w => True) (fun x : Unit => .agg (encMk (putM m d.toNat)).toArray) (fun x => []) (fun x => True) := by
  refine Ret.of e_107 Tryd.func107 rfl Tryd.ntmps107 rfl rfl (fun w hpre => ?_)
  obtain ⟨d, rfl⟩ := Int.eq_ofNat_of_zero_le hd.1
  refine Ex.regSeq (ExL.pures 0 rfl ?_)
  refine ExL.op rfl (op_box rfl rfl rfl rfl rfl (fun b1 => ?_))
  refine ExL.op rfl (op_alloc rfl rfl rfl rfl rfl (fun b2 => ?_))
  refine ExL.nil ?_
  refine Ex.regSeq (ExL.pures 1 rfl ?_)
  refine ExL.free (fr_quoW ((d / 64 : Nat) : Int) rfl rfl rfl (by omega) (quo64 (by omega))) rfl rfl rfl ?_
  refine ExL.free (fr_indexAddr_b (sz := 1) rfl rfl rfl rfl rfl (by omega)) rfl rfl rfl ?_
  refine ExL.free (fr_load rfl rfl rfl rfl (CellO.blk (i := 1) rfl (blkG (eI_len .u64) 0 rfl (by rw [mk_len]; omega) rfl))) rfl rfl rfl ?_
  refine ExL.pures 1 rfl ?_
  refine ExL.free (by first | exact fr_remP rfl rfl rfl (by omega) | exact fr_rem rfl rfl rfl (by omega)) rfl rfl rfl ?_
  refine ExL.free (by first | exact fr_conv_u64 rfl rfl rfl rfl (by omega) | exact fr_conv rfl rfl rfl rfl) rfl rfl rfl ?_
  refine ExL.free (fr_shl rfl rfl rfl (by omega)) rfl rfl rfl ?_
  refine ExL.free (by first | exact fr_and255 rfl rfl rfl (by omega) | exact fr_bits rfl rfl rfl (by simp)) rfl rfl rfl ?_
  refine ExL.free (fr_indexAddr_b (sz := 1) rfl rfl rfl rfl rfl (by omega)) rfl rfl rfl ?_
  refine ExL.op rfl (op_store (i := 1) rfl rfl rfl rfl rfl rfl rfl rfl (room (eI_len .u64) (k := (↑(d / 64) : Int).toNat) (by rw [mk_len]; omega) (by simp) rfl) rfl ?_)
  refine ExL.nil ?_
  rw [put_walk hm (by omega)]
  refine Ex.regSeq (ExL.pures 0 rfl ?_)
  refine ExL.free (fr_loadN rfl rfl rfl rfl rfl (SegO.whole (i := 1) rfl)) rfl rfl rfl ?_
  refine ExL.op rfl (op_storeC (i := 0) rfl rfl rfl rfl rfl rfl rfl rfl rfl rfl ?_)
  refine ExL.nil ?_
  refine Ex.ret ?_
  refine RetQ.mk () rfl (.cell rfl (.many rfl rfl rfl (SegO.whole (i := 0) rfl)) .nil) (rfl) [] (rfl) rfl (trivial)
theorem e_108 : Enters Tryd.prog 108 := Enters.of Tryd.func108 rfl
theorem c_with (m : VMk) (hm : OkMk m) (d : Int) (hd : 0 ≤ d ∧ d ≤ 127) : Ret Tryd.prog 108 [.agg (encMk m).toArray, .int .i64 d, .bool true] (fun w => True) (fun x : Unit => .agg (encMk (putM m d.toNat)).toArray) (fun x => []) (fun x => True) := by
  refine Ret.of e_108 Tryd.func108 rfl Tryd.ntmps108 rfl rfl (fun w hpre => ?_)
  obtain ⟨d, rfl⟩ := Int.eq_ofNat_of_zero_le hd.1
  refine Ex.regSeq (ExL.pures 0 rfl ?_)
  refine ExL.op rfl (op_box rfl rfl rfl rfl rfl (fun b1 => ?_))
  refine ExL.op rfl (op_alloc rfl rfl rfl rfl rfl (fun b2 => ?_))
  refine ExL.nil ?_
  refine Ex.regSeq (ExL.pures 1 rfl ?_)
  refine ExL.free (by first | exact fr_remP rfl rfl rfl (by omega) | exact fr_rem rfl rfl rfl (by omega)) rfl rfl rfl ?_
  refine ExL.free (fr_shl rfl rfl rfl (by omega)) rfl rfl rfl ?_
  refine ExL.pures 1 rfl ?_
  refine ExL.nil ?_
  refine Ex.seq ?_
  refine Ex.regSeq (ExL.pures 1 rfl ?_)
  refine ExL.nil ?_
  refine Ex.cond_t rfl ?_
  refine Ex.region (ExL.pures 1 rfl ?_)
  refine ExL.free (fr_quoW ((d / 64 : Nat) : Int) rfl rfl rfl (by omega) (quo64 (by omega))) rfl rfl rfl ?_
  refine ExL.free (fr_indexAddr_b (sz := 1) rfl rfl rfl rfl rfl (by omega)) rfl rfl rfl ?_
  refine ExL.free (fr_load rfl rfl rfl rfl (CellO.blk (i := 1) rfl (blkG (eI_len .u64) 0 rfl (by rw [mk_len]; omega) rfl))) rfl rfl rfl ?_
  refine ExL.pures 1 rfl ?_
  refine ExL.free (by first | exact fr_and255 rfl rfl rfl (by omega) | exact fr_bits rfl rfl rfl (by simp)) rfl rfl rfl ?_
  refine ExL.free (fr_indexAddr_b (sz := 1) rfl rfl rfl rfl rfl (by omega)) rfl rfl rfl ?_
  refine ExL.op rfl (op_store (i := 1) rfl rfl rfl rfl rfl rfl rfl rfl (room (eI_len .u64) (k := (↑(d / 64) : Int).toNat) (by rw [mk_len]; omega) (by simp) rfl) rfl ?_)
  refine ExL.nil ?_
  rw [put_walk hm (by omega)]
  refine Ex.regSeq (ExL.pures 0 rfl ?_)
  refine ExL.free (fr_loadN rfl rfl rfl rfl rfl (SegO.whole (i := 1) rfl)) rfl rfl rfl ?_
  refine ExL.op rfl (op_storeC (i := 0) rfl rfl rfl rfl rfl rfl rfl rfl rfl rfl ?_)
  refine ExL.nil ?_
  refine Ex.ret ?_
  refine RetQ.mk () rfl (.cell rfl (.many rfl rfl rfl (SegO.whole (i := 0) rfl)) .nil) (rfl) [] (rfl) rfl (trivial)
theorem e_99 : Enters Tryd.prog 99 := Enters.of Tryd.func99 rfl
theorem c_below (b : Int) (hb : 0 ≤ b ∧ b ≤ 128) : Ret Tryd.prog 99 [.int .i64 b] (fun w => True) (fun x : Unit => .agg (encMk (fullM b.toNat)).toArray) (fun x => []) (fun x => True) := by
  refine Ret.of e_99 Tryd.func99 rfl Tryd.ntmps99 rfl rfl (fun w hpre => ?_)
  refine Ex.regSeq (ExL.pures 0 rfl ?_)
  refine ExL.op rfl (op_alloc rfl rfl rfl rfl rfl (fun b1 => ?_))
  refine ExL.nil ?_
  refine Ex.regSeq (ExL.pures 0 rfl ?_)
  refine ExL.free (fr_build rfl rfl rfl rfl) rfl rfl rfl ?_
  refine ExL.op rfl (op_alloc rfl rfl rfl rfl rfl (fun b2 => ?_))
  refine ExL.op rfl (op_storeC (i := 0) rfl rfl rfl rfl rfl rfl rfl rfl rfl rfl ?_)
  refine ExL.nil ?_
  refine Ex.seq ?_
  refine Ex.regSeq (ExL.pures 2 rfl ?_)
  refine ExL.nil ?_
  refine Ex.block ?_
  refine Ex.loopK (X := Nat) (fun k => [(7, .int .i64 k)]) (fun k => [.blk b2 (encMk (fullM k)) 36]) (fun k => (k : Int) ≤ b) (fun k => b.toNat - k) 0 [(2, _), (3, _), (6, _)] [_] 2 [0, 1] ⟨rfl, trivial⟩ ⟨rfl, rfl, rfl, trivial⟩ (rfl) rfl (by omega) (fun k hI => ?_)
  have hI : (k : Int) ≤ b := hI
  have hbk := hb
  refine Ex.regSeq (ExL.pures 0 rfl ?_)
  refine ExL.lss rfl rfl rfl rfl rfl rfl (fun h3 => ?_) (fun h3 => ?_)
  · refine ExL.nil ?_
    refine Ex.seq ?_
    refine Ex.cond_t rfl ?_
    refine Ex.skip ?_
    refine Ex.seq ?_
    refine Ex.block ?_
    refine Ex.regSeq (ExL.pures 2 rfl ?_)
    refine ExL.nil ?_
    refine Ex.region (ExL.pures 0 rfl ?_)
    refine ExL.free (fr_loadN rfl rfl rfl rfl rfl (SegO.whole (i := 0) rfl)) rfl rfl rfl ?_
    refine ExL.pures 1 rfl ?_
    refine ExL.op rfl (op_ret rfl rfl rfl (c_with (fullM k) (fullM_ok (by omega)) _ (by omega)) (fun _ _ => trivial) rfl rfl (fun x4 hx4 => ?_))
    refine ExL.op rfl (op_storeC (i := 0) rfl rfl rfl rfl rfl rfl rfl rfl rfl rfl ?_)
    refine ExL.nil ?_
    refine Ex.region (ExL.pures 0 rfl ?_)
    refine ExL.free (by first | exact fr_add64 rfl rfl rfl (by omega) | exact fr_add rfl rfl rfl) rfl rfl rfl ?_
    refine ExL.pures 1 rfl ?_
    refine ExL.nil ?_
    refine Hand.mk (k + 1) 2 [0, 1] ⟨rfl, trivial⟩ ⟨rfl, rfl, rfl, trivial⟩ (rfl) rfl (by omega) (by omega)
  · refine ExL.nil ?_
    refine Ex.seq ?_
    refine Ex.cond_f rfl ?_
    refine Ex.exit ?_
    obtain rfl : b = (k : Int) := (by omega)
    refine Ex.regSeq (ExL.pures 0 rfl ?_)
    refine ExL.free (fr_loadN rfl rfl rfl rfl rfl (SegO.whole (i := 0) rfl)) rfl rfl rfl ?_
    refine ExL.op rfl (op_storeC (i := 1) rfl rfl rfl rfl rfl rfl rfl rfl rfl rfl ?_)
    refine ExL.nil ?_
    refine Ex.ret ?_
    refine RetQ.mk () rfl (.cell rfl (.many rfl rfl rfl (SegO.whole (i := 1) rfl)) .nil) (rfl) [] (rfl) rfl (trivial)
theorem e_97 : Enters Tryd.prog 97 := Enters.of Tryd.func97 rfl
theorem c_l05Full (b : Int) (hb : 0 ≤ b ∧ b ≤ 128) : Ret Tryd.prog 97 [.int .u8 b] (fun w => True) (fun x : Unit => .agg (encMk (fullM b.toNat)).toArray) (fun x => []) (fun x => True) := by
  refine Ret.of e_97 Tryd.func97 rfl Tryd.ntmps97 rfl rfl (fun w hpre => ?_)
  refine Ex.regSeq (ExL.pures 0 rfl ?_)
  refine ExL.op rfl (op_alloc rfl rfl rfl rfl rfl (fun b1 => ?_))
  refine ExL.nil ?_
  refine Ex.regSeq (ExL.pures 0 rfl ?_)
  refine ExL.free (fr_build rfl rfl rfl rfl) rfl rfl rfl ?_
  refine ExL.op rfl (op_alloc rfl rfl rfl rfl rfl (fun b2 => ?_))
  refine ExL.op rfl (op_storeC (i := 0) rfl rfl rfl rfl rfl rfl rfl rfl rfl rfl ?_)
  refine ExL.nil ?_
  refine Ex.seq ?_
  refine Ex.regSeq (ExL.pures 1 rfl ?_)
  refine ExL.nil ?_
  refine Ex.block ?_
  refine Ex.loopK (X := Nat) (fun k => [(4, .int .i64 k)]) (fun k => [.blk b2 (encMk (fullM k)) 36]) (fun k => (k : Int) ≤ b) (fun k => b.toNat - k) 0 [(0, _), (2, _), (3, _)] [_] 2 [0, 1] ⟨rfl, trivial⟩ ⟨rfl, rfl, rfl, trivial⟩ (rfl) rfl (by omega) (fun k hI => ?_)
  have hI : (k : Int) ≤ b := hI
  have hbk := hb
  refine Ex.seq ?_
  refine Ex.regSeq (ExL.pures 2 rfl ?_)
  refine ExL.free (by first | exact fr_conv64 rfl rfl rfl rfl (by omega) | exact fr_conv rfl rfl rfl rfl) rfl rfl rfl ?_
  refine ExL.lss rfl rfl rfl rfl rfl rfl (fun h3 => ?_) (fun h3 => ?_)
  · refine ExL.nil ?_
    refine Ex.cond_t rfl ?_
    refine Ex.skip ?_
    refine Ex.seq ?_
    refine Ex.block ?_
    refine Ex.region (ExL.pures 0 rfl ?_)
    refine ExL.free (fr_loadN rfl rfl rfl rfl rfl (SegO.whole (i := 0) rfl)) rfl rfl rfl ?_
    refine ExL.pures 1 rfl ?_
    refine ExL.op rfl (op_ret rfl rfl rfl (c_l05Put (fullM k) (fullM_ok (by omega)) _ (by omega)) (fun _ _ => trivial) rfl rfl (fun x4 hx4 => ?_))
    refine ExL.op rfl (op_storeC (i := 0) rfl rfl rfl rfl rfl rfl rfl rfl rfl rfl ?_)
    refine ExL.nil ?_
    refine Ex.region (ExL.pures 1 rfl ?_)
    refine ExL.free (by first | exact fr_add64 rfl rfl rfl (by omega) | exact fr_add rfl rfl rfl) rfl rfl rfl ?_
    refine ExL.pures 1 rfl ?_
    refine ExL.nil ?_
    refine Hand.mk (k + 1) 2 [0, 1] ⟨rfl, trivial⟩ ⟨rfl, rfl, rfl, trivial⟩ (rfl) rfl (by omega) (by omega)
  · refine ExL.nil ?_
    refine Ex.cond_f rfl ?_
    refine Ex.exit ?_
    obtain rfl : b = (k : Int) := (by omega)
    refine Ex.regSeq (ExL.pures 0 rfl ?_)
    refine ExL.free (fr_loadN rfl rfl rfl rfl rfl (SegO.whole (i := 0) rfl)) rfl rfl rfl ?_
    refine ExL.op rfl (op_storeC (i := 1) rfl rfl rfl rfl rfl rfl rfl rfl rfl rfl ?_)
    refine ExL.nil ?_
    refine Ex.ret ?_
    refine RetQ.mk () rfl (.cell rfl (.many rfl rfl rfl (SegO.whole (i := 1) rfl)) .nil) (rfl) [] (rfl) rfl (trivial)
theorem e_96 : Enters Tryd.prog 96 := Enters.of Tryd.func96 rfl
theorem c_l05Within (m n : VMk) : Ret Tryd.prog 96 [.agg (encMk m).toArray, .agg (encMk n).toArray] (fun w => True) (fun x : Unit => .bool (subM m n)) (fun x => []) (fun x => True) := by
  refine Ret.of e_96 Tryd.func96 rfl Tryd.ntmps96 rfl rfl (fun w hpre => ?_)
  refine Ex.regSeq (ExL.pures 0 rfl ?_)
  refine ExL.op rfl (op_box rfl rfl rfl rfl rfl (fun b1 => ?_))
  refine ExL.op rfl (op_box rfl rfl rfl rfl rfl (fun b2 => ?_))
  refine ExL.pures 1 rfl ?_
  refine ExL.nil ?_
  refine Ex.regSeq (ExL.pures 0 rfl ?_)
  refine ExL.free (fr_indexAddr_b (sz := 1) rfl rfl rfl rfl rfl (by omega)) rfl rfl rfl ?_
  refine ExL.free (fr_load rfl rfl rfl rfl (CellO.blk (i := 1) rfl rfl)) rfl rfl rfl ?_
  refine ExL.free (fr_indexAddr_b (sz := 1) rfl rfl rfl rfl rfl (by omega)) rfl rfl rfl ?_
  refine ExL.free (fr_load rfl rfl rfl rfl (CellO.blk (i := 0) rfl rfl)) rfl rfl rfl ?_
  refine ExL.free (by first | exact fr_and255 rfl rfl rfl (by omega) | exact fr_bits rfl rfl rfl (by simp)) rfl rfl rfl ?_
  refine ExL.eql rfl rfl rfl rfl rfl rfl (fun h3 => ?_) (fun h3 => ?_)
  · refine ExL.pures 1 rfl ?_
    refine ExL.free (fr_indexAddr_b (sz := 1) rfl rfl rfl rfl rfl (by omega)) rfl rfl rfl ?_
    refine ExL.free (fr_load rfl rfl rfl rfl (CellO.blk (i := 1) rfl rfl)) rfl rfl rfl ?_
    refine ExL.free (fr_indexAddr_b (sz := 1) rfl rfl rfl rfl rfl (by omega)) rfl rfl rfl ?_
    refine ExL.free (fr_load rfl rfl rfl rfl (CellO.blk (i := 0) rfl rfl)) rfl rfl rfl ?_
    refine ExL.free (by first | exact fr_and255 rfl rfl rfl (by omega) | exact fr_bits rfl rfl rfl (by simp)) rfl rfl rfl ?_
    refine ExL.eql rfl rfl rfl rfl rfl rfl (fun h4 => ?_) (fun h4 => ?_)
    · refine ExL.pures 2 rfl ?_
      refine ExL.nil ?_
      refine Ex.ret ?_
      refine RetQ.mk () rfl (.tmp rfl .nil) (tB (by rw [sub_dec]; first | (rw [dec_f (by assumption)]; done) | simp_all)) [] (rfl) rfl (trivial)
    · refine ExL.pures 2 rfl ?_
      refine ExL.nil ?_
      refine Ex.ret ?_
      refine RetQ.mk () rfl (.tmp rfl .nil) (tB (by rw [sub_dec]; first | (rw [dec_f (by assumption)]; done) | simp_all)) [] (rfl) rfl (trivial)
  · refine ExL.pures 9 rfl ?_
    refine ExL.nil ?_
    refine Ex.ret ?_
    refine RetQ.mk () rfl (.tmp rfl .nil) (tB (by rw [sub_dec]; first | (rw [dec_f (by assumption)]; done) | simp_all)) [] (rfl) rfl (trivial)
end Go.Proofs.YthfbmkfbmmjchaaDoor
