/- What these functions of the program hand back, each proved by walking its operations. -/
import Derived.Test.YthfbmkfbmmjchaaDoorProg
import Derived.Test.YthfbmkfbmmjchaaDoorFw
import Derived.Test.YthfbmkfbmmjchaaDoorM3
import Derived.Test.YthfbmkfbmmjchaaDoorGP
set_option linter.unusedVariables false
set_option linter.unusedSimpArgs false
set_option maxRecDepth 4000
namespace Go.Proofs.YthfbmkfbmmjchaaDoor
open Go Go.Sx Go.RowKit Go.W Go.Proofs
attribute [local irreducible] Ex ExL ExD Op1 Free RetQ MutQ Reads CellO SegO LoadsAs
theorem e_73 : Enters Tryd.prog 73 := Enters.of Tryd.func73 rfl
theorem c_back1 (s : List Int) (As : Option Addr) (cs : Nat) (hls : s.length ≤ maxLen) (b base : Nat) (w0 : World) (hs : RdB base w0 As (s.flatMap (eI .u8))) : Iter Tryd.prog 73 [.pointer (some ⟨b, 0, none⟩)] base w0 (.blk b [.slice As s.length cs] 34) s.length (fun k => [.int .i64 ((s.length - 1 - k : Nat) : Int), .int .u8 (s.getD (s.length - 1 - k) 0)]) := by
  refine Iter.of e_73 Tryd.func73 rfl Tryd.ntmps73 rfl rfl (fun w1 l Mf hW hY => ?_)
  have hs := hs.keep hW
  have hm0 : maxLen = 9223372036854775807 := rfl
  refine Ex.regSeq (ExL.pures 0 rfl ?_)
  refine ExL.free (fr_load rfl rfl rfl rfl (CellO.blk (i := 0) rfl rfl)) rfl rfl rfl ?_
  refine ExL.pures 1 rfl ?_
  refine ExL.free (fr_sub64 rfl rfl rfl (by omega)) rfl rfl rfl ?_
  refine ExL.pures 1 rfl ?_
  refine ExL.nil ?_
  refine Ex.block ?_
  refine Ex.loopK (X := Nat) (fun k => [(3, .int .i64 ((s.length : Int) - 1 - k))]) (fun k => .blk b [.slice As s.length cs] 34 :: Mf k) (fun k => k ≤ s.length) (fun k => s.length - k) 0 [(0, _), (1, _)] [] 1 [0] ⟨agI (by simp), trivial⟩ ⟨rfl, rfl, trivial⟩ pick_box rfl (Nat.zero_le _) (fun k hI => ?_)
  refine Ex.seq ?_
  refine Ex.regSeq (ExL.pures 1 rfl ?_)
  refine ExL.geq rfl rfl rfl rfl rfl rfl (fun h1 => ?_) (fun h1 => ?_)
  · have hk : k < s.length := by omega
    have hj : (s.length : Int) - 1 - k = ((s.length - 1 - k : Nat) : Int) := by omega
    rw [hj]
    refine ExL.nil ?_
    refine Ex.cond_t rfl ?_
    refine Ex.skip ?_
    refine Ex.seq ?_
    refine Ex.block ?_
    refine Ex.regSeq (ExL.pures 2 rfl ?_)
    refine ExL.free (fr_load rfl rfl rfl rfl (CellO.blk (i := 0) rfl rfl)) rfl rfl rfl ?_
    refine ExL.pures 1 rfl ?_
    refine ExL.free (fr_indexAddrF (Reads.old hs) (eI_len .u8) rfl rfl rfl rfl rfl rfl (by omega)) rfl rfl rfl ?_
    refine ExL.free (fr_load rfl rfl rfl rfl (cellN (Reads.old hs) (eI_len .u8) 0 0 rfl (by omega) rfl)) rfl rfl rfl ?_
    refine ExL.yield rfl rfl rfl rfl rfl rfl (fun w hw => hY k w hk (by simpa using hw)) ?_
    refine ExL.pures 1 rfl ?_
    refine ExL.nil ?_
    refine Ex.cond_f rfl ?_
    refine Ex.skip ?_
    refine Ex.region (ExL.pures 1 rfl ?_)
    refine ExL.free (fr_sub64 rfl rfl rfl (by omega)) rfl rfl rfl ?_
    refine ExL.pures 1 rfl ?_
    refine ExL.nil ?_
    exact Hand.mk (k + 1) 1 [0] ⟨agI (by omega), trivial⟩ ⟨rfl, rfl, trivial⟩ pick_box rfl (by omega) (by omega)
  · refine ExL.nil ?_
    refine Ex.cond_f rfl ?_
    refine Ex.exit ?_
    obtain rfl : k = s.length := (by omega)
    exact ⟨rfl, by simp⟩
theorem e_41 : Enters Tryd.prog 41 := Enters.of Tryd.func41 rfl
theorem c_Back (s : List Int) (As : Option Addr) (cs : Nat) : Ret Tryd.prog 41 [.slice As s.length cs] (fun w => True) (fun x : Nat => .func (.func 73) #[] (List.toArray [.pointer (some ⟨x, 0, none⟩)])) (fun x => [.blk x [.slice As s.length cs] 34]) (fun x => True) := by
  refine Ret.of e_41 Tryd.func41 rfl Tryd.ntmps41 rfl rfl (fun w hpre => ?_)
  refine Ex.regSeq (ExL.pures 0 rfl ?_)
  refine ExL.op rfl (op_box rfl rfl rfl rfl rfl (fun b1 => ?_))
  refine ExL.pures 1 rfl ?_
  refine ExL.nil ?_
  refine Ex.regSeq (ExL.pures 0 rfl ?_)
  refine ExL.free (fr_makeFunc rfl rfl rfl) rfl rfl rfl ?_
  refine ExL.pures 1 rfl ?_
  refine ExL.nil ?_
  refine Ex.ret ?_
  refine RetQ.mk _ rfl (.tmp rfl .nil) (rfl) [0] (rfl) rfl (trivial)
theorem e_60 : Enters Tryd.prog 60 := Enters.of Tryd.func60 rfl
theorem c_digits (s : List Int) (hv : validStack s = true) (As : Option Addr) (cs : Nat) (v : Int) (hv0 : 0 ≤ v ∧ v ≤ 9000000000000000000) : Ret Tryd.prog 60 [.slice As s.length cs, .int .i64 v] (fun w => Rd w As (s.flatMap (eI .u8))) (fun x : Unit => .agg (encD (dig (digs s v))).toArray) (fun x => []) (fun x => True) := by
  refine Ret.of e_60 Tryd.func60 rfl Tryd.ntmps60 rfl rfl (fun w hpre => ?_)
  have hs := hpre.base
  have hS := stk hv
  have h8 := hS.len8
  have hm0 : maxLen = 9223372036854775807 := rfl
  refine Ex.regSeq (ExL.pures 0 rfl ?_)
  refine ExL.op rfl (op_alloc rfl rfl rfl rfl rfl (fun b1 => ?_))
  refine ExL.nil ?_
  refine Ex.regSeq (ExL.pures 0 rfl ?_)
  refine ExL.free (fr_build rfl rfl rfl rfl) rfl rfl rfl ?_
  refine ExL.op rfl (op_alloc rfl rfl rfl rfl rfl (fun b2 => ?_))
  refine ExL.op rfl (op_storeC (i := 0) rfl rfl rfl rfl rfl rfl rfl rfl rfl rfl ?_)
  refine ExL.nil ?_
  refine Ex.seq ?_
  refine Ex.regSeq (ExL.pures 3 rfl ?_)
  refine ExL.nil ?_
  refine Ex.block ?_
  refine Ex.loopK (X := Nat) (fun k => [(1, .int .i64 (v / prod (s.take k))), (11, .int .i64 k)]) (fun k => [.blk b2 ((Sx.part 0 (digs s v) k).flatMap (eI .u8)) 44]) (fun k => k ≤ s.length) (fun k => s.length - k) 0 [(4, _), (5, _), (9, _), (10, _)] [_] 2 [0, 1] ⟨agI (by simp [prod]), rfl, trivial⟩ ⟨rfl, rfl, rfl, rfl, trivial⟩ (pkB (by rw [part_zero, digs_len]; rfl)) rfl (Nat.zero_le _) (fun k hI => ?_)
  have hI : k ≤ s.length := hI
  refine Ex.regSeq (ExL.pures 0 rfl ?_)
  refine ExL.lss rfl rfl rfl rfl rfl rfl (fun h3 => ?_) (fun h3 => ?_)
  · refine ExL.nil ?_
    refine Ex.seq ?_
    refine Ex.cond_t rfl ?_
    refine Ex.skip ?_
    refine Ex.seq ?_
    refine Ex.block ?_
    have hk : k < s.length := by omega
    have hb := hS.bases k hk
    have hx : 0 ≤ v / prod (s.take k) % s.getD k 0 ∧ v / prod (s.take k) % s.getD k 0 < s.getD k 0 := dAt_bd hS.bases hk
    have hp := prod_pos (hS.bases.take k)
    have hd0 := Int.ediv_nonneg hv0.1 (show 0 ≤ prod (s.take k) by omega)
    have hd1 := Int.ediv_le_self (prod (s.take k)) hv0.1
    refine Ex.regSeq (ExL.pures 1 rfl ?_)
    refine ExL.free (fr_indexAddrF (Reads.old hs) (eI_len .u8) rfl rfl rfl rfl rfl rfl (by omega)) rfl rfl rfl ?_
    refine ExL.free (fr_load rfl rfl rfl rfl (by first | exact cellN (Reads.old hs) (eI_len .u8) 0 0 rfl (by omega) rfl | exact cellF (Reads.old hs) (eI_len .u8) 0 0 rfl (by omega) rfl)) rfl rfl rfl ?_
    refine ExL.pures 2 rfl ?_
    refine ExL.nil ?_
    refine Ex.regSeq (ExL.pures 3 rfl ?_)
    refine ExL.free (by first | exact fr_conv64 rfl rfl rfl rfl (by omega) | exact fr_conv rfl rfl rfl rfl) rfl rfl rfl ?_
    refine ExL.free (by first | exact fr_remP rfl rfl rfl (by omega) | exact fr_rem rfl rfl rfl (by omega)) rfl rfl rfl ?_
    refine ExL.free (by first | exact fr_conv_u8 rfl rfl rfl rfl (by omega) | exact fr_conv rfl rfl rfl rfl) rfl rfl rfl ?_
    refine ExL.free (fr_indexAddr_b (sz := 1) rfl rfl rfl rfl rfl (by omega)) rfl rfl rfl ?_
    refine ExL.op rfl (op_store (i := 0) rfl rfl rfl rfl rfl rfl rfl rfl (room (eI_len .u8) (k := k) (part_lt (by rw [digs_len]; omega) (by rw [digs_len]; omega)) (by simp) rfl) rfl ?_)
    refine ExL.nil ?_
    refine Ex.region (ExL.pures 2 rfl ?_)
    refine ExL.free (by first | exact fr_conv64 rfl rfl rfl rfl (by omega) | exact fr_conv rfl rfl rfl rfl) rfl rfl rfl ?_
    refine ExL.free (by first | exact fr_quo64 rfl rfl rfl (by omega) | exact fr_quo rfl rfl rfl (by omega)) rfl rfl rfl ?_
    refine ExL.pures 1 rfl ?_
    refine ExL.nil ?_
    refine Ex.region (ExL.pures 0 rfl ?_)
    refine ExL.free (by first | exact fr_add64 rfl rfl rfl (by omega) | exact fr_add rfl rfl rfl) rfl rfl rfl ?_
    refine ExL.pures 1 rfl ?_
    refine ExL.nil ?_
    refine Hand.mk (k + 1) 2 [0, 1] ⟨agI (div_prod hS.bases hk), rfl, trivial⟩ ⟨rfl, rfl, rfl, rfl, trivial⟩ (pkB (part_put (eI_len .u8) 0 0 (digs s v) k (by rw [digs_len]; omega) (by simp) (congrArg (eI .u8) (digs_lo h8 hk).symm))) rfl (by omega) (by omega)
  · refine ExL.nil ?_
    refine Ex.seq ?_
    refine Ex.cond_f rfl ?_
    refine Ex.exit ?_
    obtain rfl : k = s.length := (by omega)
    rw [digs_part h8, ← encD_dig (digs_len s v)]
    refine Ex.regSeq (ExL.pures 0 rfl ?_)
    refine ExL.free (fr_loadN rfl rfl rfl rfl rfl (SegO.whole (i := 0) rfl)) rfl rfl rfl ?_
    refine ExL.op rfl (op_storeC (i := 1) rfl rfl rfl rfl rfl rfl rfl rfl rfl rfl ?_)
    refine ExL.nil ?_
    refine Ex.ret ?_
    refine RetQ.mk () rfl (.cell rfl (.many rfl rfl rfl (SegO.whole (i := 1) rfl)) .nil) (rfl) [] (rfl) rfl (trivial)
theorem e_92 : Enters Tryd.prog 92 := Enters.of Tryd.func92 rfl
theorem c_l01Of (s : List Int) (hv : validStack s = true) (As : Option Addr) (cs : Nat) (v : Int) (hv0 : 0 ≤ v ∧ v ≤ 9000000000000000000) : Ret Tryd.prog 92 [.slice As s.length cs, .int .i64 v] (fun w => Rd w As (s.flatMap (eI .u8))) (fun x : Unit => .agg (encD (dig (digs s v))).toArray) (fun x => []) (fun x => True) := by
  refine Ret.of e_92 Tryd.func92 rfl Tryd.ntmps92 rfl rfl (fun w hpre => ?_)
  have hs := hpre.base
  have hS := stk hv
  have h8 := hS.len8
  have hm0 : maxLen = 9223372036854775807 := rfl
  refine Ex.regSeq (ExL.pures 0 rfl ?_)
  refine ExL.op rfl (op_alloc rfl rfl rfl rfl rfl (fun b1 => ?_))
  refine ExL.nil ?_
  refine Ex.regSeq (ExL.pures 0 rfl ?_)
  refine ExL.free (fr_build rfl rfl rfl rfl) rfl rfl rfl ?_
  refine ExL.op rfl (op_alloc rfl rfl rfl rfl rfl (fun b2 => ?_))
  refine ExL.op rfl (op_storeC (i := 0) rfl rfl rfl rfl rfl rfl rfl rfl rfl rfl ?_)
  refine ExL.nil ?_
  refine Ex.seq ?_
  refine Ex.regSeq (ExL.pures 1 rfl ?_)
  refine ExL.nil ?_
  refine Ex.block ?_
  refine Ex.loopK (X := Nat) (fun k => [(1, .int .i64 (v / prod (s.take k))), (6, .int .i64 k)]) (fun k => [.blk b2 ((Sx.part 0 (digs s v) k).flatMap (eI .u8)) 44]) (fun k => k ≤ s.length) (fun k => s.length - k) 0 [(0, _), (4, _), (5, _)] [_] 2 [0, 1] ⟨agI (by simp [prod]), rfl, trivial⟩ ⟨rfl, rfl, rfl, trivial⟩ (pkB (by rw [part_zero, digs_len]; rfl)) rfl (Nat.zero_le _) (fun k hI => ?_)
  have hI : k ≤ s.length := hI
  refine Ex.seq ?_
  refine Ex.regSeq (ExL.pures 3 rfl ?_)
  refine ExL.lss rfl rfl rfl rfl rfl rfl (fun h3 => ?_) (fun h3 => ?_)
  · refine ExL.nil ?_
    refine Ex.cond_t rfl ?_
    refine Ex.skip ?_
    refine Ex.seq ?_
    refine Ex.block ?_
    have hk : k < s.length := by omega
    have hb := hS.bases k hk
    have hx : 0 ≤ v / prod (s.take k) % s.getD k 0 ∧ v / prod (s.take k) % s.getD k 0 < s.getD k 0 := dAt_bd hS.bases hk
    have hp := prod_pos (hS.bases.take k)
    have hd0 := Int.ediv_nonneg hv0.1 (show 0 ≤ prod (s.take k) by omega)
    have hd1 := Int.ediv_le_self (prod (s.take k)) hv0.1
    refine Ex.regSeq (ExL.pures 4 rfl ?_)
    refine ExL.free (fr_indexAddrF (Reads.old hs) (eI_len .u8) rfl rfl rfl rfl rfl rfl (by omega)) rfl rfl rfl ?_
    refine ExL.free (fr_load rfl rfl rfl rfl (by first | exact cellN (Reads.old hs) (eI_len .u8) 0 0 rfl (by omega) rfl | exact cellF (Reads.old hs) (eI_len .u8) 0 0 rfl (by omega) rfl)) rfl rfl rfl ?_
    refine ExL.free (by first | exact fr_conv64 rfl rfl rfl rfl (by omega) | exact fr_conv rfl rfl rfl rfl) rfl rfl rfl ?_
    refine ExL.free (by first | exact fr_remP rfl rfl rfl (by omega) | exact fr_rem rfl rfl rfl (by omega)) rfl rfl rfl ?_
    refine ExL.free (by first | exact fr_conv_u8 rfl rfl rfl rfl (by omega) | exact fr_conv rfl rfl rfl rfl) rfl rfl rfl ?_
    refine ExL.free (fr_indexAddr_b (sz := 1) rfl rfl rfl rfl rfl (by omega)) rfl rfl rfl ?_
    refine ExL.op rfl (op_store (i := 0) rfl rfl rfl rfl rfl rfl rfl rfl (room (eI_len .u8) (k := k) (part_lt (by rw [digs_len]; omega) (by rw [digs_len]; omega)) (by simp) rfl) rfl ?_)
    refine ExL.nil ?_
    refine Ex.region (ExL.pures 3 rfl ?_)
    refine ExL.free (fr_indexAddrF (Reads.old hs) (eI_len .u8) rfl rfl rfl rfl rfl rfl (by omega)) rfl rfl rfl ?_
    refine ExL.free (fr_load rfl rfl rfl rfl (by first | exact cellN (Reads.old hs) (eI_len .u8) 0 0 rfl (by omega) rfl | exact cellF (Reads.old hs) (eI_len .u8) 0 0 rfl (by omega) rfl)) rfl rfl rfl ?_
    refine ExL.free (by first | exact fr_conv64 rfl rfl rfl rfl (by omega) | exact fr_conv rfl rfl rfl rfl) rfl rfl rfl ?_
    refine ExL.free (by first | exact fr_quo64 rfl rfl rfl (by omega) | exact fr_quo rfl rfl rfl (by omega)) rfl rfl rfl ?_
    refine ExL.pures 1 rfl ?_
    refine ExL.nil ?_
    refine Ex.region (ExL.pures 1 rfl ?_)
    refine ExL.free (by first | exact fr_add64 rfl rfl rfl (by omega) | exact fr_add rfl rfl rfl) rfl rfl rfl ?_
    refine ExL.pures 1 rfl ?_
    refine ExL.nil ?_
    refine Hand.mk (k + 1) 2 [0, 1] ⟨agI (div_prod hS.bases hk), rfl, trivial⟩ ⟨rfl, rfl, rfl, trivial⟩ (pkB (part_put (eI_len .u8) 0 0 (digs s v) k (by rw [digs_len]; omega) (by simp) (congrArg (eI .u8) (digs_lo h8 hk).symm))) rfl (by omega) (by omega)
  · refine ExL.nil ?_
    refine Ex.cond_f rfl ?_
    refine Ex.exit ?_
    obtain rfl : k = s.length := (by omega)
    rw [digs_part h8, ← encD_dig (digs_len s v)]
    refine Ex.regSeq (ExL.pures 0 rfl ?_)
    refine ExL.free (fr_loadN rfl rfl rfl rfl rfl (SegO.whole (i := 0) rfl)) rfl rfl rfl ?_
    refine ExL.op rfl (op_storeC (i := 1) rfl rfl rfl rfl rfl rfl rfl rfl rfl rfl ?_)
    refine ExL.nil ?_
    refine Ex.ret ?_
    refine RetQ.mk () rfl (.cell rfl (.many rfl rfl rfl (SegO.whole (i := 1) rfl)) .nil) (rfl) [] (rfl) rfl (trivial)
theorem e_106 : Enters Tryd.prog 106 := Enters.of Tryd.func106 rfl
theorem c_hasValue (s : List Int) (hu : Nums 255 s) (As : Option Addr) (cs : Nat) (hl : s.length ≤ maxLen) (v : Int) : Ret Tryd.prog 106 [.slice As s.length cs, .int .i64 v] (fun w => Rd w As (s.flatMap (eI .u8))) (fun x : Unit => .bool (decide (0 ≤ v ∧ v ≤ size s - 1))) (fun x => []) (fun x => True) := by
  refine Ret.of e_106 Tryd.func106 rfl Tryd.ntmps106 rfl rfl (fun w hpre => ?_)
  have hs := hpre.base
  have hz := size_bd hu s.length
  rw [List.take_length] at hz
  refine Ex.regSeq (ExL.pures 1 rfl ?_)
  refine ExL.nil ?_
  refine Ex.regSeq (ExL.pures 2 rfl ?_)
  refine ExL.op rfl (op_ret rfl rfl rfl (c_size _ (by assumption) _ _ (by first | assumption | omega | (unfold maxLen; omega))) (Reads.get (Reads.old hs)) rfl rfl (fun x1 hx1 => ?_))
  refine ExL.free (by first | exact fr_sub64 rfl rfl rfl (by omega) | exact fr_sub rfl rfl rfl) rfl rfl rfl ?_
  refine ExL.op rfl (op_ret rfl rfl rfl (c_within _ _ _) (fun _ _ => trivial) rfl rfl (fun x2 hx2 => ?_))
  refine ExL.pures 1 rfl ?_
  refine ExL.nil ?_
  refine Ex.ret ?_
  refine RetQ.mk () rfl (.tmp rfl .nil) (rfl) [] (rfl) rfl (trivial)
end Go.Proofs.YthfbmkfbmmjchaaDoor
