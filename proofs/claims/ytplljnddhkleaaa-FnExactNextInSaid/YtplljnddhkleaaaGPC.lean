/- What these functions of the program hand back, each proved by walking its operations. -/
import Derived.Test.YtplljnddhkleaaaProg
import Derived.Test.YtplljnddhkleaaaFw
import Derived.Test.YtplljnddhkleaaaM38
import Derived.Test.YtplljnddhkleaaaGPB
set_option linter.unusedVariables false
set_option linter.unusedSimpArgs false
set_option maxRecDepth 4000
namespace Go.Proofs.Ytplljnddhkleaaa
open Go Go.Sx Go.RowKit Go.W Go.Proofs
attribute [local irreducible] Ex ExL ExD Op1 Free RetQ MutQ Reads CellO SegO LoadsAs
theorem e_127 : Enters Try.prog 127 := Enters.of Try.func127 rfl
theorem c_ones (v : Int) (hx : 0 ≤ v ∧ v < 18446744073709551616) : Ret Try.prog 127 [.int .u64 v] (fun w => True) (fun x : Unit => .int .i64 (popI v)) (fun x => []) (fun x => True) := by
  refine Ret.of e_127 Try.func127 rfl Try.ntmps127 rfl rfl (fun w hpre => ?_)
  refine Ex.regSeq (ExL.pures 1 rfl ?_)
  refine ExL.nil ?_
  refine Ex.regSeq (ExL.pures 1 rfl ?_)
  refine ExL.free (fr_shr rfl rfl rfl (by omega)) rfl rfl rfl ?_
  refine ExL.free (by first | exact fr_and255 rfl rfl rfl (by omega) | exact fr_bits rfl rfl rfl (by simp)) rfl rfl rfl ?_
  refine ExL.pures 1 rfl ?_
  refine ExL.free (by first | exact fr_and255 rfl rfl rfl (by omega) | exact fr_bits rfl rfl rfl (by simp)) rfl rfl rfl ?_
  refine ExL.free (fr_add rfl rfl rfl) rfl rfl rfl ?_
  refine ExL.pures 1 rfl ?_
  refine ExL.nil ?_
  obtain ⟨a, ha⟩ : ∃ z, IntKind.u64.wrap (bits .and .u64 (v / 2 ^ min (1 : Int).toNat IntKind.u64.bits) 6148914691236517205 + bits .and .u64 v 6148914691236517205) = z := ⟨_, rfl⟩
  rw [ha]
  refine Ex.regSeq (ExL.pures 1 rfl ?_)
  refine ExL.free (fr_shr rfl rfl rfl (by omega)) rfl rfl rfl ?_
  refine ExL.free (by first | exact fr_and255 rfl rfl rfl (by omega) | exact fr_bits rfl rfl rfl (by simp)) rfl rfl rfl ?_
  refine ExL.pures 1 rfl ?_
  refine ExL.free (by first | exact fr_and255 rfl rfl rfl (by omega) | exact fr_bits rfl rfl rfl (by simp)) rfl rfl rfl ?_
  refine ExL.free (fr_add rfl rfl rfl) rfl rfl rfl ?_
  refine ExL.pures 1 rfl ?_
  refine ExL.nil ?_
  obtain ⟨b, hb⟩ : ∃ z, IntKind.u64.wrap (bits .and .u64 (a / 2 ^ min (2 : Int).toNat IntKind.u64.bits) 3689348814741910323 + bits .and .u64 a 3689348814741910323) = z := ⟨_, rfl⟩
  rw [hb]
  refine Ex.regSeq (ExL.pures 1 rfl ?_)
  refine ExL.free (fr_shr rfl rfl rfl (by omega)) rfl rfl rfl ?_
  refine ExL.pures 1 rfl ?_
  refine ExL.free (fr_add rfl rfl rfl) rfl rfl rfl ?_
  refine ExL.free (by first | exact fr_and255 rfl rfl rfl (by omega) | exact fr_bits rfl rfl rfl (by simp)) rfl rfl rfl ?_
  refine ExL.pures 1 rfl ?_
  refine ExL.nil ?_
  obtain ⟨c, hc⟩ : ∃ z, bits .and .u64 (IntKind.u64.wrap (b / 2 ^ min (4 : Int).toNat IntKind.u64.bits + b)) 1085102592571150095 = z := ⟨_, rfl⟩
  rw [hc]
  refine Ex.regSeq (ExL.pures 2 rfl ?_)
  refine ExL.free (fr_shr rfl rfl rfl (by omega)) rfl rfl rfl ?_
  refine ExL.free (fr_add rfl rfl rfl) rfl rfl rfl ?_
  refine ExL.pures 1 rfl ?_
  refine ExL.nil ?_
  obtain ⟨d, hd⟩ : ∃ z, IntKind.u64.wrap (c + c / 2 ^ min (8 : Int).toNat IntKind.u64.bits) = z := ⟨_, rfl⟩
  rw [hd]
  refine Ex.regSeq (ExL.pures 2 rfl ?_)
  refine ExL.free (fr_shr rfl rfl rfl (by omega)) rfl rfl rfl ?_
  refine ExL.free (fr_add rfl rfl rfl) rfl rfl rfl ?_
  refine ExL.pures 1 rfl ?_
  refine ExL.nil ?_
  obtain ⟨e, he⟩ : ∃ z, IntKind.u64.wrap (d + d / 2 ^ min (16 : Int).toNat IntKind.u64.bits) = z := ⟨_, rfl⟩
  rw [he]
  refine Ex.regSeq (ExL.pures 2 rfl ?_)
  refine ExL.free (fr_shr rfl rfl rfl (by omega)) rfl rfl rfl ?_
  refine ExL.free (fr_add rfl rfl rfl) rfl rfl rfl ?_
  refine ExL.pures 1 rfl ?_
  refine ExL.nil ?_
  obtain ⟨f, hf⟩ : ∃ z, IntKind.u64.wrap (e + e / 2 ^ min (32 : Int).toNat IntKind.u64.bits) = z := ⟨_, rfl⟩
  rw [hf]
  have hq := ones64' hx ha hb hc hd he hf
  have hq0 := hq.1
  have hq1 := hq.2.1
  refine Ex.regSeq (ExL.pures 1 rfl ?_)
  refine ExL.free (by first | exact fr_conv64 rfl rfl rfl rfl (by omega) | exact fr_conv rfl rfl rfl rfl) rfl rfl rfl ?_
  refine ExL.free (by first | exact fr_and255 rfl rfl rfl (by omega) | exact fr_bits rfl rfl rfl (by simp)) rfl rfl rfl ?_
  refine ExL.pures 1 rfl ?_
  refine ExL.nil ?_
  refine Ex.ret ?_
  refine RetQ.mk () rfl (.tmp rfl .nil) (tI (by obtain ⟨q0, q1, q2⟩ := ones64' hx ha hb hc hd he hf; rw [and127 ⟨q0, q1⟩, q2])) [] (rfl) rfl (trivial)
theorem e_101 : Enters Try.prog 101 := Enters.of Try.func101 rfl
theorem c_count (m : VMk) (hm : OkMk m) : Ret Try.prog 101 [.agg (encMk m).toArray] (fun w => True) (fun x : Unit => .int .i64 (cntM m)) (fun x => []) (fun x => True) := by
  refine Ret.of e_101 Try.func101 rfl Try.ntmps101 rfl rfl (fun w hpre => ?_)
  have hb0 := popI_bd m.lo
  have hb1 := popI_bd m.hi
  refine Ex.regSeq (ExL.pures 0 rfl ?_)
  refine ExL.op rfl (op_box rfl rfl rfl rfl rfl (fun b1 => ?_))
  refine ExL.pures 1 rfl ?_
  refine ExL.nil ?_
  refine Ex.drawSeqM rfl ?_
  refine ExD.take (i := 0) rfl (by kernel_rfl) (fr_indexAddr_b (sz := 1) rfl rfl rfl rfl rfl (by omega)) ((List.Sublist.refl _)) rfl rfl rfl ?_
  refine ExD.take (i := 1) rfl (by kernel_rfl) (fr_load rfl rfl rfl rfl (CellO.blk (i := 0) rfl rfl)) ((List.Sublist.refl _)) rfl rfl rfl ?_
  refine ExD.take (i := 3) rfl (by kernel_rfl) (fr_indexAddr_b (sz := 1) rfl rfl rfl rfl rfl (by omega)) ((List.Sublist.refl _)) rfl rfl rfl ?_
  refine ExD.take (i := 4) rfl (by kernel_rfl) (fr_load rfl rfl rfl rfl (CellO.blk (i := 0) rfl rfl)) ((List.Sublist.refl _)) rfl rfl rfl ?_
  refine ExD.op (i := 2) rfl (by kernel_rfl) rfl (op_ret rfl rfl rfl (c_ones m.lo (hm.1)) (fun _ _ => trivial) rfl rfl (fun x2 hx2 => ⟨(List.Sublist.refl _), ?_⟩))
  refine ExD.op (i := 5) rfl (by kernel_rfl) rfl (op_ret rfl rfl rfl (c_ones m.hi (hm.2)) (fun _ _ => trivial) rfl rfl (fun x3 hx3 => ⟨(List.Sublist.refl _), ?_⟩))
  refine ExD.take (i := 6) rfl (by kernel_rfl) (by first | exact fr_add64 rfl rfl rfl (by omega) | exact fr_add rfl rfl rfl) ((List.Sublist.refl _)) rfl rfl rfl ?_
  refine ExD.take (i := 7) rfl (by kernel_rfl) (pureVal_ok rfl) ((List.Sublist.refl _)) rfl rfl rfl ?_
  refine ExD.done (by kernel_rfl) ?_
  refine Ex.ret ?_
  refine RetQ.mk () rfl (.tmp rfl .nil) (rfl) [] (rfl) rfl (trivial)
theorem e_100 : Enters Try.prog 100 := Enters.of Try.func100 rfl
theorem c_l05Count (m : VMk) (hm : OkMk m) : Ret Try.prog 100 [.agg (encMk m).toArray] (fun w => True) (fun x : Unit => .int .i64 (cntM m)) (fun x => []) (fun x => True) := by
  refine Ret.of e_100 Try.func100 rfl Try.ntmps100 rfl rfl (fun w hpre => ?_)
  refine Ex.regSeq (ExL.pures 0 rfl ?_)
  refine ExL.op rfl (op_box rfl rfl rfl rfl rfl (fun b1 => ?_))
  refine ExL.pures 1 rfl ?_
  refine ExL.nil ?_
  refine Ex.regSeq (ExL.pures 1 rfl ?_)
  refine ExL.nil ?_
  refine Ex.seq ?_
  refine Ex.regSeq (ExL.pures 1 rfl ?_)
  refine ExL.nil ?_
  refine Ex.block ?_
  refine Ex.loopK (X := Nat) (fun i => [(3, .int .i64 (cumM m i)), (4, .int .i64 i)]) (fun i => []) (fun i => i ≤ 2) (fun i => 2 - i) 0 [(1, _), (2, _)] [_] 1 [0] ⟨rfl, rfl, trivial⟩ ⟨rfl, rfl, trivial⟩ (rfl) rfl (by omega) (fun i hI => ?_)
  have hI : i ≤ 2 := hI
  have hcb := cumM_bd m i
  have hxi := hm.at_ i
  refine Ex.seq ?_
  refine Ex.regSeq (ExL.pures 1 rfl ?_)
  refine ExL.lss rfl rfl rfl rfl rfl rfl (fun h2 => ?_) (fun h2 => ?_)
  · refine ExL.nil ?_
    refine Ex.cond_t rfl ?_
    refine Ex.skip ?_
    refine Ex.seq ?_
    refine Ex.block ?_
    refine Ex.regSeq (ExL.pures 1 rfl ?_)
    refine ExL.free (fr_indexAddr_b (sz := 1) rfl rfl rfl rfl rfl (by omega)) rfl rfl rfl ?_
    refine ExL.free (fr_load rfl rfl rfl rfl (CellO.blk (i := 0) rfl (blkG (eI_len .u64) 0 rfl (by rw [mk_len]; omega) rfl))) rfl rfl rfl ?_
    refine ExL.pures 1 rfl ?_
    refine ExL.nil ?_
    refine Ex.block ?_
    refine Ex.loopK (X := Nat) (fun k => [(3, .int .i64 (cumM m i + popJ (m.l.getD i 0) k)), (5, .int .u64 (m.l.getD i 0 / 2 ^ k))]) (fun k => []) (fun k => k ≤ 64) (fun k => 64 - k) 0 [(1, _), (2, _), (4, _)] [_] 1 [0] ⟨agI (by rw [popJ_0, Int.add_zero]), agI (by simp), trivial⟩ ⟨rfl, rfl, rfl, trivial⟩ (rfl) rfl (Nat.zero_le _) (fun k hI => ?_)
    have hI : k ≤ 64 := hI
    have hbd := pop_bd (k := k) hxi
    have hpj := popJ_bd (m.l.getD i 0) k
    have hb1 := bits_one hbd
    refine Ex.seq ?_
    refine Ex.regSeq (ExL.pures 1 rfl ?_)
    refine ExL.neq rfl rfl rfl rfl rfl rfl (fun h3 => ?_) (fun h3 => ?_)
    · refine ExL.nil ?_
      refine Ex.cond_t rfl ?_
      refine Ex.skip ?_
      refine Ex.seq ?_
      refine Ex.block ?_
      have hk64 := pop_lt (k := k) hxi (by omega)
      refine Ex.region (ExL.pures 2 rfl ?_)
      refine ExL.free (by first | exact fr_and255 rfl rfl rfl (by omega) | exact fr_bits rfl rfl rfl (by simp)) rfl rfl rfl ?_
      refine ExL.free (by first | exact fr_conv64 rfl rfl rfl rfl (by omega) | exact fr_conv rfl rfl rfl rfl) rfl rfl rfl ?_
      refine ExL.free (by first | exact fr_add64 rfl rfl rfl (by omega) | exact fr_add rfl rfl rfl) rfl rfl rfl ?_
      refine ExL.pures 1 rfl ?_
      refine ExL.nil ?_
      refine Ex.region (ExL.pures 1 rfl ?_)
      refine ExL.free (fr_shr rfl rfl rfl (by omega)) rfl rfl rfl ?_
      refine ExL.pures 1 rfl ?_
      refine ExL.nil ?_
      refine Hand.mk (k + 1) 1 [0] ⟨agI (by rw [popJ_s hxi.1, ← bits_one hbd]; omega), agI pop_div, trivial⟩ ⟨rfl, rfl, rfl, trivial⟩ (rfl) rfl (by omega) (by omega)
    · refine ExL.nil ?_
      refine Ex.cond_f rfl ?_
      refine Ex.exit ?_
      have hfin := popJ_end (k := k) hxi.1 hI (by omega)
      rw [hfin]
      refine Ex.region (ExL.pures 1 rfl ?_)
      refine ExL.free (by first | exact fr_add64 rfl rfl rfl (by omega) | exact fr_add rfl rfl rfl) rfl rfl rfl ?_
      refine ExL.pures 1 rfl ?_
      refine ExL.nil ?_
      refine Hand.mk (i + 1) 1 [0] ⟨rfl, rfl, trivial⟩ ⟨rfl, rfl, trivial⟩ (rfl) rfl (by omega) (by omega)
  · refine ExL.nil ?_
    refine Ex.cond_f rfl ?_
    refine Ex.exit ?_
    first | (obtain rfl : i = 2 := (by omega)) | skip
    refine Ex.regSeq (ExL.pures 2 rfl ?_)
    refine ExL.nil ?_
    refine Ex.ret ?_
    refine RetQ.mk () rfl (.tmp rfl .nil) (tI (cumM_2 m)) [] (rfl) rfl (trivial)
theorem e_58 : Enters Try.prog 58 := Enters.of Try.func58 rfl
theorem c_l05Choices (s : List Int) (hS : Stk s) (p : VPh) (hP : PhOk s p.l) (hp : OkPh p) (b q : Nat) (n : Nat) (hn : n ≤ s.length) : Ret Try.prog 58 [.pointer (some ⟨b, q, none⟩), .int .i64 n] (fun w => Rd w (some ⟨b, q, none⟩) (encPh p)) (fun x : Unit => .int .i64 (choV p.l n)) (fun x => []) (fun x => True) := by
  refine Ret.of e_58 Try.func58 rfl Try.ntmps58 rfl rfl (fun w hpre => ?_)
  have hpt := hpre.base
  have hpl := ph_len p
  have h8 := hS.len8
  have hm0 : maxLen = 9223372036854775807 := rfl
  refine Ex.regSeq (ExL.pures 1 rfl ?_)
  refine ExL.nil ?_
  refine Ex.regSeq (ExL.pures 1 rfl ?_)
  refine ExL.nil ?_
  refine Ex.seq ?_
  refine Ex.regSeq (ExL.pures 1 rfl ?_)
  refine ExL.nil ?_
  refine Ex.block ?_
  refine Ex.loopK (X := Nat) (fun k => [(5, .int .i64 (choV p.l k)), (6, .int .i64 k)]) (fun k => []) (fun k => k ≤ n) (fun k => n - k) 0 [(0, _), (1, _), (4, _)] [] 0 [] ⟨rfl, rfl, trivial⟩ ⟨rfl, rfl, rfl, trivial⟩ (rfl) rfl (Nat.zero_le _) (fun k hI => ?_)
  have hI : k ≤ n := hI
  have hcl := cho_le hP hS (i := k) (by omega)
  refine Ex.seq ?_
  refine Ex.regSeq (ExL.pures 2 rfl ?_)
  refine ExL.lss rfl rfl rfl rfl rfl rfl (fun h1 => ?_) (fun h1 => ?_)
  · refine ExL.nil ?_
    refine Ex.cond_t rfl ?_
    refine Ex.skip ?_
    refine Ex.seq ?_
    refine Ex.block ?_
    have hkn : k < n := by omega
    have hcb := cntM_bd (p.l.getD k zMk)
    have hcm := cho_le hP hS (i := k + 1) (by omega)
    rw [choV] at hcm
    refine Ex.region (ExL.pures 4 rfl ?_)
    refine ExL.free (fr_indexAddr_b (sz := 2) rfl rfl rfl rfl rfl (by omega)) rfl rfl rfl ?_
    refine ExL.free (fr_loadN rfl rfl rfl rfl rfl (segOld (Reads.old hpt) encMk_len zMk rfl (by rw [ph_len]; omega))) rfl rfl rfl ?_
    refine ExL.op rfl (op_ret rfl rfl rfl (c_l05Count (p.l.getD k zMk) (hp k (by omega))) (fun _ _ => trivial) rfl rfl (fun x2 hx2 => ?_))
    refine ExL.free (by first | exact fr_mul64 rfl rfl rfl (by omega) | exact fr_mul rfl rfl rfl) rfl rfl rfl ?_
    refine ExL.pures 1 rfl ?_
    refine ExL.nil ?_
    refine Ex.region (ExL.pures 1 rfl ?_)
    refine ExL.free (by first | exact fr_add64 rfl rfl rfl (by omega) | exact fr_add rfl rfl rfl) rfl rfl rfl ?_
    refine ExL.pures 1 rfl ?_
    refine ExL.nil ?_
    refine Hand.mk (k + 1) 0 [] ⟨rfl, rfl, trivial⟩ ⟨rfl, rfl, rfl, trivial⟩ (rfl) rfl (by omega) (by omega)
  · refine ExL.nil ?_
    refine Ex.cond_f rfl ?_
    refine Ex.exit ?_
    obtain rfl : k = n := (by omega)
    refine Ex.regSeq (ExL.pures 2 rfl ?_)
    refine ExL.nil ?_
    refine Ex.ret ?_
    refine RetQ.mk () rfl (.tmp rfl .nil) (rfl) [] (rfl) rfl (trivial)
theorem e_60 : Enters Try.prog 60 := Enters.of Try.func60 rfl
theorem c_choices (s : List Int) (hS : Stk s) (p : VPh) (hP : PhOk s p.l) (hp : OkPh p) (b q : Nat) (n : Nat) (hn : n ≤ s.length) : Ret Try.prog 60 [.pointer (some ⟨b, q, none⟩), .int .i64 n] (fun w => Rd w (some ⟨b, q, none⟩) (encPh p)) (fun x : Unit => .int .i64 (choV p.l n)) (fun x => []) (fun x => True) := by
  refine Ret.of e_60 Try.func60 rfl Try.ntmps60 rfl rfl (fun w hpre => ?_)
  have hpt := hpre.base
  have hpl := ph_len p
  have h8 := hS.len8
  have hm0 : maxLen = 9223372036854775807 := rfl
  refine Ex.regSeq (ExL.pures 1 rfl ?_)
  refine ExL.nil ?_
  refine Ex.regSeq (ExL.pures 1 rfl ?_)
  refine ExL.nil ?_
  refine Ex.seq ?_
  refine Ex.regSeq (ExL.pures 3 rfl ?_)
  refine ExL.free (fr_sliceArr_h (sz := 2) n rfl rfl rfl rfl rfl rfl rfl (by omega)) rfl rfl rfl ?_
  refine ExL.pures 2 rfl ?_
  refine ExL.nil ?_
  refine Ex.block ?_
  refine Ex.loopK (X := Nat) (fun k => [(5, .int .i64 (choV p.l k)), (13, .int .i64 k)]) (fun k => []) (fun k => k ≤ n) (fun k => n - k) 0 [(4, _), (11, _), (12, _)] [] 0 [] ⟨rfl, rfl, trivial⟩ ⟨rfl, rfl, rfl, trivial⟩ (rfl) rfl (Nat.zero_le _) (fun k hI => ?_)
  have hI : k ≤ n := hI
  have hcl := cho_le hP hS (i := k) (by omega)
  refine Ex.regSeq (ExL.pures 0 rfl ?_)
  refine ExL.lss rfl rfl rfl rfl rfl rfl (fun h1 => ?_) (fun h1 => ?_)
  · refine ExL.nil ?_
    refine Ex.seq ?_
    refine Ex.cond_t rfl ?_
    refine Ex.skip ?_
    refine Ex.seq ?_
    refine Ex.block ?_
    have hkn : k < n := by omega
    have hcb := cntM_bd (p.l.getD k zMk)
    have hcm := cho_le hP hS (i := k + 1) (by omega)
    rw [choV] at hcm
    refine Ex.regSeq (ExL.pures 0 rfl ?_)
    refine ExL.free (fr_indexAddr (sz := 2) rfl rfl rfl rfl rfl rfl (by omega)) rfl rfl rfl ?_
    refine ExL.free (fr_loadN rfl rfl rfl rfl rfl (by first | exact segN (Reads.old hpt) encMk_len rfl zMk (by omega) | exact segF (Reads.old hpt) encMk_len rfl zMk (by omega))) rfl rfl rfl ?_
    refine ExL.op rfl (op_alloc rfl rfl rfl rfl rfl (fun b2 => ?_))
    refine ExL.op rfl (op_storeC (i := 0) rfl rfl rfl rfl rfl rfl rfl rfl rfl rfl ?_)
    refine ExL.nil ?_
    refine Ex.region (ExL.pures 1 rfl ?_)
    refine ExL.free (fr_loadN rfl rfl rfl rfl rfl (SegO.whole (i := 0) rfl)) rfl rfl rfl ?_
    refine ExL.op rfl (op_ret rfl rfl rfl (c_count (p.l.getD k zMk) (hp k (by omega))) (fun _ _ => trivial) rfl rfl (fun x3 hx3 => ?_))
    refine ExL.free (by first | exact fr_mul64 rfl rfl rfl (by omega) | exact fr_mul rfl rfl rfl) rfl rfl rfl ?_
    refine ExL.pures 1 rfl ?_
    refine ExL.nil ?_
    refine Ex.region (ExL.pures 0 rfl ?_)
    refine ExL.free (by first | exact fr_add64 rfl rfl rfl (by omega) | exact fr_add rfl rfl rfl) rfl rfl rfl ?_
    refine ExL.pures 1 rfl ?_
    refine ExL.nil ?_
    refine Hand.mk (k + 1) 1 [] ⟨rfl, rfl, trivial⟩ ⟨rfl, rfl, rfl, trivial⟩ (rfl) rfl (by omega) (by omega)
  · refine ExL.nil ?_
    refine Ex.seq ?_
    refine Ex.cond_f rfl ?_
    refine Ex.exit ?_
    obtain rfl : k = n := (by omega)
    refine Ex.regSeq (ExL.pures 2 rfl ?_)
    refine ExL.nil ?_
    refine Ex.ret ?_
    refine RetQ.mk () rfl (.tmp rfl .nil) (rfl) [] (rfl) rfl (trivial)
theorem e_102 : Enters Try.prog 102 := Enters.of Try.func102 rfl
theorem c_digitsM (m : VMk) (hm : OkMk m) : Ret Try.prog 102 [.agg (encMk m).toArray] (fun w => True) (fun x : Option Addr × Nat => .slice x.1 (digI m).length x.2) (fun x => [.row (.slice x.1 (digI m).length x.2) 3 1 (digI m).length ((digI m).flatMap (eI .i64))]) (fun x => True) := by
  refine Ret.of e_102 Try.func102 rfl Try.ntmps102 rfl rfl (fun w hpre => ?_)
  have hm0 : maxLen = 9223372036854775807 := rfl
  refine Ex.regSeq (ExL.pures 0 rfl ?_)
  refine ExL.op rfl (op_box rfl rfl rfl rfl rfl (fun b1 => ?_))
  refine ExL.pures 1 rfl ?_
  refine ExL.nil ?_
  refine Ex.regSeq (ExL.pures 0 rfl ?_)
  refine ExL.op rfl (op_buildSlice (sz := 1) rfl rfl rfl rfl rfl rfl rfl rfl (by decide) rfl rfl rfl (fun r2 => ?_))
  refine ExL.pures 1 rfl ?_
  refine ExL.nil ?_
  refine Ex.seq ?_
  refine Ex.regSeq (ExL.pures 1 rfl ?_)
  refine ExL.nil ?_
  refine Ex.block ?_
  refine Ex.loopA (fun k A c => [(3, .slice A (digP m k).length c), (6, .int .i64 k)]) (fun k A c => [.row (.slice A (digP m k).length c) 3 1 (digP m k).length ((digP m k).flatMap (eI .i64))]) (fun k => k ≤ 128) (fun k => 128 - k) 0 ((some ⟨r2, 0, none⟩)) (0) [(1, _), (2, _)] [_] 2 [0, 1] ⟨rfl, rfl, trivial⟩ ⟨rfl, rfl, trivial⟩ (rfl) rfl (by omega) (fun k A c hI => ?_)
  have hI : k ≤ 128 := hI
  have hdl := digP_len m k
  refine Ex.regSeq (ExL.pures 0 rfl ?_)
  refine ExL.lss rfl rfl rfl rfl rfl rfl (fun h3 => ?_) (fun h3 => ?_)
  · refine ExL.nil ?_
    refine Ex.seq ?_
    refine Ex.cond_t rfl ?_
    refine Ex.skip ?_
    refine Ex.seq ?_
    refine Ex.block ?_
    refine Ex.regSeq (ExL.pures 2 rfl ?_)
    refine ExL.nil ?_
    refine Ex.regSeq (ExL.pures 0 rfl ?_)
    refine ExL.free (fr_loadN rfl rfl rfl rfl rfl (SegO.whole (i := 1) rfl)) rfl rfl rfl ?_
    refine ExL.pures 1 rfl ?_
    refine ExL.op rfl (op_ret rfl rfl rfl (c_has m hm _ (by omega)) (fun _ _ => trivial) rfl rfl (fun x4 hx4 => ?_))
    refine ExL.nil ?_
    refine Ex.cond rfl (fun hb5 => ?_) (fun hb5 => ?_)
    · refine Ex.region (ExL.pures 2 rfl ?_)
      refine ExL.op rfl (op_buildSlice (sz := 1) rfl rfl rfl rfl rfl rfl rfl rfl (by decide) rfl rfl rfl (fun r6 => ?_))
      refine ExL.op rfl (op_append (sz := 1) (bytes := 8) (i := 1) rfl rfl rfl rfl (Reads.row (i := 0) rfl) rfl (fun e => nomatch e) rfl rfl rfl rfl (by constructor <;> first | omega | (unfold maxLen; omega)) rfl rfl (fun A7 cA7 => ?_))
      refine ExL.pures 1 rfl ?_
      refine ExL.nil ?_
      refine Ex.region (ExL.pures 0 rfl ?_)
      refine ExL.free (by first | exact fr_add64 rfl rfl rfl (by omega) | exact fr_add rfl rfl rfl) rfl rfl rfl ?_
      refine ExL.pures 1 rfl ?_
      refine ExL.nil ?_
      refine HandA.of (k + 1) (A7) (cA7) 3 [1, 2] ⟨(by first | (rw [digP_n (by assumption)]; first | done | rfl) | (rw [digP_y (by assumption), List.length_append]; rfl)), rfl, trivial⟩ ⟨rfl, rfl, trivial⟩ (by first | (rw [digP_n (by assumption)]; first | done | rfl) | (rw [digP_y (by assumption), List.length_append, List.flatMap_append]; rfl)) rfl (by omega) (by omega)
    · refine Ex.skip ?_
      refine Ex.region (ExL.pures 0 rfl ?_)
      refine ExL.free (by first | exact fr_add64 rfl rfl rfl (by omega) | exact fr_add rfl rfl rfl) rfl rfl rfl ?_
      refine ExL.pures 1 rfl ?_
      refine ExL.nil ?_
      refine HandA.of (k + 1) (A) (c) 2 [0, 1] ⟨(by first | (rw [digP_n (by assumption)]; first | done | rfl) | (rw [digP_y (by assumption), List.length_append]; rfl)), rfl, trivial⟩ ⟨rfl, rfl, trivial⟩ (by first | (rw [digP_n (by assumption)]; first | done | rfl) | (rw [digP_y (by assumption), List.length_append, List.flatMap_append]; rfl)) rfl (by omega) (by omega)
  · refine ExL.nil ?_
    refine Ex.seq ?_
    refine Ex.cond_f rfl ?_
    refine Ex.exit ?_
    obtain rfl : k = 128 := (by omega)
    refine Ex.regSeq (ExL.pures 2 rfl ?_)
    refine ExL.nil ?_
    refine Ex.ret ?_
    refine RetQ.mk (A, c) rfl (.tmp rfl .nil) (rfl) [0] (rfl) rfl (trivial)
theorem e_65 : Enters Try.prog 65 := Enters.of Try.func65 rfl
theorem c_l05Below (s : List Int) (hv : validStack s = true) (As : Option Addr) (cs : Nat) (p : VPh) (hp : OkPh p) (b q : Nat) (a : Dig) (ha : Nums 255 a.l) (hd : validDig s a.l = true) (hP : PhOk s p.l) : Ret Try.prog 65 [.slice As s.length cs, .pointer (some ⟨b, q, none⟩), .agg (encD a).toArray] (fun w => Rd w As (s.flatMap (eI .u8)) ∧ Rd w (some ⟨b, q, none⟩) (encPh p)) (fun x : Unit => .int .i64 (belV p.l a.l s.length 0)) (fun x => []) (fun x => True) := by
  refine Ret.of e_65 Try.func65 rfl Try.ntmps65 rfl rfl (fun w hpre => ?_)
  have hpt := hpre.2.base
  have hs := hpre.1.base
  have hS := stk hv
  have h8 := hS.len8
  have hm0 : maxLen = 9223372036854775807 := rfl
  have hD := digOk h8 ha hd
  refine Ex.regSeq (ExL.pures 0 rfl ?_)
  refine ExL.op rfl (op_box rfl rfl rfl rfl rfl (fun b1 => ?_))
  refine ExL.pures 1 rfl ?_
  refine ExL.nil ?_
  refine Ex.regSeq (ExL.pures 1 rfl ?_)
  refine ExL.nil ?_
  refine Ex.seq ?_
  refine Ex.regSeq (ExL.pures 2 rfl ?_)
  refine ExL.free (by first | exact fr_sub64 rfl rfl rfl (by omega) | exact fr_sub rfl rfl rfl) rfl rfl rfl ?_
  refine ExL.pures 1 rfl ?_
  refine ExL.nil ?_
  refine Ex.block ?_
  refine Ex.loopK (X := Nat) (fun k => [(7, .int .i64 (accU p.l a.l (s.length - k) k)), (8, .int .i64 ((k : Int) - 1))]) (fun k => []) (fun k => k ≤ s.length ∧ belV p.l a.l s.length 0 = belV p.l a.l k (accU p.l a.l (s.length - k) k)) (fun k => k) s.length [(1, _), (5, _)] [_] 1 [0] ⟨agI (by rw [Nat.sub_self]; rfl), rfl, trivial⟩ ⟨rfl, rfl, trivial⟩ (rfl) rfl ⟨Nat.le_refl _, by rw [Nat.sub_self]; rfl⟩ (fun k hI => ?_)
  have hI : k ≤ s.length ∧ belV p.l a.l s.length 0 = belV p.l a.l k (accU p.l a.l (s.length - k) k) := hI
  obtain ⟨hk, hinv⟩ := hI
  refine Ex.seq ?_
  refine Ex.regSeq (ExL.pures 1 rfl ?_)
  refine ExL.geq rfl rfl rfl rfl rfl rfl (fun h2 => ?_) (fun h2 => ?_)
  · refine ExL.nil ?_
    refine Ex.cond_t rfl ?_
    refine Ex.skip ?_
    refine Ex.seq ?_
    refine Ex.block ?_
    have hab := acc_bd hP hS hD (s.length - k) k (by omega)
    obtain ⟨j, rfl⟩ : ∃ j, k = j + 1 := ⟨k - 1, by omega⟩
    have hjs : j < s.length := by omega
    have hdj := hD j hjs
    have hbj := hS.bases j hjs
    have htb := bel_term hP hS hD hjs
    rw [show ((j + 1 : Nat) : Int) - 1 = (j : Int) by omega]
    refine Ex.regSeq (ExL.pures 1 rfl ?_)
    refine ExL.nil ?_
    refine Ex.seq ?_
    refine Ex.regSeq (ExL.pures 1 rfl ?_)
    refine ExL.nil ?_
    refine Ex.block ?_
    refine Ex.loopK (X := Nat) (fun r => [(9, .int .i64 (lessM (p.l.getD j zMk) r)), (10, .int .i64 r)]) (fun r => []) (fun r => (r : Int) ≤ a.l.getD j 0) (fun r => (a.l.getD j 0).toNat - r) 0 [(1, _), (5, _), (7, _), (8, _)] [_] 1 [0] ⟨rfl, rfl, trivial⟩ ⟨rfl, rfl, rfl, rfl, trivial⟩ (rfl) rfl (by omega) (fun r hI => ?_)
    have hI : (r : Int) ≤ a.l.getD j 0 := hI
    have hlb := less_bd (p.l.getD j zMk) r
    refine Ex.seq ?_
    refine Ex.regSeq (ExL.pures 2 rfl ?_)
    refine ExL.free (fr_indexAddr_b (sz := 1) rfl rfl rfl rfl rfl (by omega)) rfl rfl rfl ?_
    refine ExL.free (fr_load rfl rfl rfl rfl (CellO.blk (i := 0) rfl (blkG (eI_len .u8) 0 rfl (by rw [dig_len]; omega) rfl))) rfl rfl rfl ?_
    refine ExL.free (by first | exact fr_conv64 rfl rfl rfl rfl (by omega) | exact fr_conv rfl rfl rfl rfl) rfl rfl rfl ?_
    refine ExL.lss rfl rfl rfl rfl rfl rfl (fun h3 => ?_) (fun h3 => ?_)
    · refine ExL.nil ?_
      refine Ex.cond_t rfl ?_
      refine Ex.skip ?_
      refine Ex.seq ?_
      refine Ex.block ?_
      refine Ex.regSeq (ExL.pures 3 rfl ?_)
      refine ExL.free (fr_indexAddr_b (sz := 2) rfl rfl rfl rfl rfl (by omega)) rfl rfl rfl ?_
      refine ExL.free (fr_loadN rfl rfl rfl rfl rfl (segOld (Reads.old hpt) encMk_len zMk rfl (by rw [ph_len]; omega))) rfl rfl rfl ?_
      refine ExL.pures 1 rfl ?_
      refine ExL.op rfl (op_ret rfl rfl rfl (c_l05Has (p.l.getD j zMk) (hp j (by omega)) _ (by omega)) (fun _ _ => trivial) rfl rfl (fun x4 hx4 => ?_))
      refine ExL.nil ?_
      refine Ex.cond rfl (fun hb5 => ?_) (fun hb5 => ?_)
      · refine Ex.region (ExL.pures 1 rfl ?_)
        refine ExL.free (by first | exact fr_add64 rfl rfl rfl (by omega) | exact fr_add rfl rfl rfl) rfl rfl rfl ?_
        refine ExL.pures 1 rfl ?_
        refine ExL.nil ?_
        refine Ex.region (ExL.pures 1 rfl ?_)
        refine ExL.free (by first | exact fr_add64 rfl rfl rfl (by omega) | exact fr_add rfl rfl rfl) rfl rfl rfl ?_
        refine ExL.pures 1 rfl ?_
        refine ExL.nil ?_
        refine Hand.mk (r + 1) 1 [0] ⟨agI (by rw [less_succ]; simp_all), rfl, trivial⟩ ⟨rfl, rfl, rfl, rfl, trivial⟩ (rfl) rfl (by omega) (by omega)
      · refine Ex.skip ?_
        refine Ex.region (ExL.pures 1 rfl ?_)
        refine ExL.free (by first | exact fr_add64 rfl rfl rfl (by omega) | exact fr_add rfl rfl rfl) rfl rfl rfl ?_
        refine ExL.pures 1 rfl ?_
        refine ExL.nil ?_
        refine Hand.mk (r + 1) 1 [0] ⟨agI (by rw [less_succ]; simp_all), rfl, trivial⟩ ⟨rfl, rfl, rfl, rfl, trivial⟩ (rfl) rfl (by omega) (by omega)
    · refine ExL.nil ?_
      refine Ex.cond_f rfl ?_
      refine Ex.exit ?_
      obtain rfl : r = (a.l.getD j 0).toNat := (by omega)
      refine Ex.regSeq (ExL.pures 4 rfl ?_)
      refine ExL.op rfl (op_ret rfl rfl rfl (c_l05Choices s (by first | assumption | exact stk (by assumption)) p (by assumption) hp _ _ j (by omega)) (Reads.get (Reads.old hpt)) rfl rfl (fun x6 hx6 => ?_))
      refine ExL.free (by first | exact fr_mul64 rfl rfl rfl (by omega) | exact fr_mul rfl rfl rfl) rfl rfl rfl ?_
      refine ExL.free (by first | exact fr_add64 rfl rfl rfl (by omega) | exact fr_add rfl rfl rfl) rfl rfl rfl ?_
      refine ExL.pures 1 rfl ?_
      refine ExL.nil ?_
      refine Ex.drawSeqM rfl ?_
      refine ExD.take (i := 0) rfl (by kernel_rfl) (pureVal_ok rfl) ((List.Sublist.refl _)) rfl rfl rfl ?_
      refine ExD.take (i := 1) rfl (by kernel_rfl) (pureVal_ok rfl) ((List.Sublist.refl _)) rfl rfl rfl ?_
      refine ExD.take (i := 2) rfl (by kernel_rfl) (pureVal_ok rfl) ((List.Sublist.refl _)) rfl rfl rfl ?_
      refine ExD.take (i := 3) rfl (by kernel_rfl) (fr_indexAddr_b (sz := 2) rfl rfl rfl rfl rfl (by omega)) ((List.Sublist.refl _)) rfl rfl rfl ?_
      refine ExD.take (i := 4) rfl (by kernel_rfl) (fr_loadN rfl rfl rfl rfl rfl (segOld (Reads.old hpt) encMk_len zMk rfl (by rw [ph_len]; omega))) ((List.Sublist.refl _)) rfl rfl rfl ?_
      refine ExD.take (i := 5) rfl (by kernel_rfl) (pureVal_ok rfl) ((List.Sublist.refl _)) rfl rfl rfl ?_
      refine ExD.take (i := 6) rfl (by kernel_rfl) (fr_indexAddr_b (sz := 1) rfl rfl rfl rfl rfl (by omega)) ((List.Sublist.refl _)) rfl rfl rfl ?_
      refine ExD.take (i := 7) rfl (by kernel_rfl) (fr_load rfl rfl rfl rfl (CellO.blk (i := 0) rfl (blkG (eI_len .u8) 0 rfl (by rw [dig_len]; omega) rfl))) ((List.Sublist.refl _)) rfl rfl rfl ?_
      refine ExD.take (i := 8) rfl (by kernel_rfl) (by first | exact fr_conv64 rfl rfl rfl rfl (by omega) | exact fr_conv rfl rfl rfl rfl) ((List.Sublist.refl _)) rfl rfl rfl ?_
      refine ExD.op (i := 9) rfl (by kernel_rfl) rfl (op_ret rfl rfl rfl (c_l05Has (p.l.getD j zMk) (hp j (by omega)) (a.l.getD j 0) (by omega)) (fun _ _ => trivial) rfl rfl (fun x7 hx7 => ⟨(List.Sublist.refl _), ?_⟩))
      refine ExD.take (i := 10) rfl (by kernel_rfl) (pureVal_ok rfl) ((List.Sublist.refl _)) rfl rfl rfl ?_
      refine ExD.done (by kernel_rfl) ?_
      refine Ex.cond rfl (fun hb8 => ?_) (fun hb8 => ?_)
      · replace hb8 := nb_t hb8
        refine Ex.regSeq (ExL.pures 2 rfl ?_)
        refine ExL.nil ?_
        refine Ex.ret ?_
        refine RetQ.mk () rfl (.tmp rfl .nil) (tI (by first | exact (bel_end (by assumption)) | exact bel_stop hinv (by assumption))) [] (rfl) rfl (trivial)
      · replace hb8 := nb_f hb8
        refine Ex.skip ?_
        refine Ex.region (ExL.pures 1 rfl ?_)
        refine ExL.free (by first | exact fr_sub64 rfl rfl rfl (by omega) | exact fr_sub rfl rfl rfl) rfl rfl rfl ?_
        refine ExL.pures 1 rfl ?_
        refine ExL.nil ?_
        refine Hand.mk (j) 1 [0] ⟨agI (by rw [acc_s hjs]), agI (by omega), trivial⟩ ⟨rfl, rfl, trivial⟩ (rfl) rfl (⟨by omega, bel_step hjs hinv (by assumption)⟩) (Nat.lt_succ_self _)
  · refine ExL.nil ?_
    refine Ex.cond_f rfl ?_
    refine Ex.exit ?_
    first | (obtain rfl : k = 0 := (by omega)) | skip
    refine Ex.regSeq (ExL.pures 2 rfl ?_)
    refine ExL.nil ?_
    refine Ex.ret ?_
    refine RetQ.mk () rfl (.tmp rfl .nil) (tI (by first | exact (bel_end (by assumption)) | exact bel_stop hinv (by assumption))) [] (rfl) rfl (trivial)
theorem e_67 : Enters Try.prog 67 := Enters.of Try.func67 rfl
theorem c_countIn (s : List Int) (hv : validStack s = true) (As : Option Addr) (cs : Nat) (p : VPh) (hp : OkPh p) (a : Dig) (ha : Nums 255 a.l) (hd : validDig s a.l = true) (hP : PhOk s p.l) : Ret Try.prog 67 [.slice As s.length cs, .agg (encPh p).toArray, .agg (encD a).toArray] (fun w => Rd w As (s.flatMap (eI .u8))) (fun x : Unit => .int .i64 (belV p.l a.l s.length 0)) (fun x => []) (fun x => True) := by
  refine Ret.of e_67 Try.func67 rfl Try.ntmps67 rfl rfl (fun w hpre => ?_)
  have hs := hpre.base
  have hS := stk hv
  have h8 := hS.len8
  have hm0 : maxLen = 9223372036854775807 := rfl
  have hD := digOk h8 ha hd
  refine Ex.regSeq (ExL.pures 0 rfl ?_)
  refine ExL.op rfl (op_box rfl rfl rfl rfl rfl (fun b1 => ?_))
  refine ExL.op rfl (op_box rfl rfl rfl rfl rfl (fun b2 => ?_))
  refine ExL.pures 1 rfl ?_
  refine ExL.nil ?_
  refine Ex.regSeq (ExL.pures 1 rfl ?_)
  refine ExL.nil ?_
  refine Ex.seq ?_
  refine Ex.regSeq (ExL.pures 2 rfl ?_)
  refine ExL.free (by first | exact fr_sub64 rfl rfl rfl (by omega) | exact fr_sub rfl rfl rfl) rfl rfl rfl ?_
  refine ExL.pures 1 rfl ?_
  refine ExL.nil ?_
  refine Ex.block ?_
  refine Ex.loopK (X := Nat) (fun k => [(7, .int .i64 (accU p.l a.l (s.length - k) k)), (8, .int .i64 ((k : Int) - 1))]) (fun k => []) (fun k => k ≤ s.length ∧ belV p.l a.l s.length 0 = belV p.l a.l k (accU p.l a.l (s.length - k) k)) (fun k => k) s.length [(4, _), (5, _), (6, _)] [_, _] 2 [0, 1] ⟨agI (by rw [Nat.sub_self]; rfl), rfl, trivial⟩ ⟨rfl, rfl, rfl, trivial⟩ (rfl) rfl ⟨Nat.le_refl _, by rw [Nat.sub_self]; rfl⟩ (fun k hI => ?_)
  have hI : k ≤ s.length ∧ belV p.l a.l s.length 0 = belV p.l a.l k (accU p.l a.l (s.length - k) k) := hI
  obtain ⟨hk, hinv⟩ := hI
  refine Ex.seq ?_
  refine Ex.regSeq (ExL.pures 1 rfl ?_)
  refine ExL.geq rfl rfl rfl rfl rfl rfl (fun h3 => ?_) (fun h3 => ?_)
  · refine ExL.nil ?_
    refine Ex.cond_t rfl ?_
    refine Ex.skip ?_
    refine Ex.seq ?_
    refine Ex.block ?_
    have hab := acc_bd hP hS hD (s.length - k) k (by omega)
    obtain ⟨j, rfl⟩ : ∃ j, k = j + 1 := ⟨k - 1, by omega⟩
    have hjs : j < s.length := by omega
    have hdj := hD j hjs
    have hbj := hS.bases j hjs
    have htb := bel_term hP hS hD hjs
    rw [show ((j + 1 : Nat) : Int) - 1 = (j : Int) by omega]
    refine Ex.regSeq (ExL.pures 1 rfl ?_)
    refine ExL.nil ?_
    refine Ex.seq ?_
    refine Ex.regSeq (ExL.pures 1 rfl ?_)
    refine ExL.free (fr_indexAddr_b (sz := 2) rfl rfl rfl rfl rfl (by omega)) rfl rfl rfl ?_
    refine ExL.free (fr_loadN rfl rfl rfl rfl rfl (segB (i := 1) rfl encMk_len zMk (by rw [ph_len]; omega))) rfl rfl rfl ?_
    refine ExL.op rfl (op_ret rfl rfl rfl (c_digitsM (p.l.getD j zMk) (hp j (by omega))) (fun _ _ => trivial) rfl rfl (fun x4 hx4 => ?_))
    refine ExL.pures 2 rfl ?_
    refine ExL.nil ?_
    refine Ex.block ?_
    have hdl := digI_len' (p.l.getD j zMk)
    refine Ex.loopK (X := Nat) (fun r => [(9, .int .i64 (lessD (digI (p.l.getD j zMk)) (a.l.getD j 0) r)), (24, .int .i64 r)]) (fun r => []) (fun r => r ≤ (digI (p.l.getD j zMk)).length) (fun r => (digI (p.l.getD j zMk)).length - r) 0 [(4, _), (5, _), (6, _), (7, _), (8, _), (22, _), (23, _)] [_, _, _] 3 [0, 1, 2] ⟨rfl, rfl, trivial⟩ ⟨rfl, rfl, rfl, rfl, rfl, rfl, rfl, trivial⟩ (rfl) rfl (Nat.zero_le _) (fun r hI => ?_)
    have hI : r ≤ (digI (p.l.getD j zMk)).length := hI
    have hlb := lessD_bd (digI (p.l.getD j zMk)) (a.l.getD j 0) r
    refine Ex.regSeq (ExL.pures 0 rfl ?_)
    refine ExL.lss rfl rfl rfl rfl rfl rfl (fun h5 => ?_) (fun h5 => ?_)
    · refine ExL.nil ?_
      refine Ex.seq ?_
      refine Ex.cond_t rfl ?_
      refine Ex.skip ?_
      refine Ex.seq ?_
      refine Ex.block ?_
      refine Ex.regSeq (ExL.pures 0 rfl ?_)
      refine ExL.free (fr_indexAddrR (sz := 1) 0 rfl rfl rfl rfl rfl rfl (by omega)) rfl rfl rfl ?_
      refine ExL.free (fr_load rfl rfl rfl rfl (by first | exact cellN (Reads.row (i := 0) rfl) (eI_len .i64) 0 0 rfl (by omega) rfl | exact cellF (Reads.row (i := 0) rfl) (eI_len .i64) 0 0 rfl (by omega) rfl)) rfl rfl rfl ?_
      refine ExL.pures 1 rfl ?_
      refine ExL.nil ?_
      refine Ex.regSeq (ExL.pures 2 rfl ?_)
      refine ExL.free (fr_indexAddr_b (sz := 1) rfl rfl rfl rfl rfl (by omega)) rfl rfl rfl ?_
      refine ExL.free (fr_load rfl rfl rfl rfl (CellO.blk (i := 1) rfl (blkG (eI_len .u8) 0 rfl (by rw [dig_len]; omega) rfl))) rfl rfl rfl ?_
      refine ExL.free (by first | exact fr_conv64 rfl rfl rfl rfl (by omega) | exact fr_conv rfl rfl rfl rfl) rfl rfl rfl ?_
      refine ExL.lss rfl rfl rfl rfl rfl rfl (fun h6 => ?_) (fun h6 => ?_)
      · refine ExL.nil ?_
        refine Ex.cond_t rfl ?_
        refine Ex.region (ExL.pures 1 rfl ?_)
        refine ExL.free (by first | exact fr_add64 rfl rfl rfl (by omega) | exact fr_add rfl rfl rfl) rfl rfl rfl ?_
        refine ExL.pures 1 rfl ?_
        refine ExL.nil ?_
        refine Ex.region (ExL.pures 0 rfl ?_)
        refine ExL.free (by first | exact fr_add64 rfl rfl rfl (by omega) | exact fr_add rfl rfl rfl) rfl rfl rfl ?_
        refine ExL.pures 1 rfl ?_
        refine ExL.nil ?_
        refine Hand.mk (r + 1) 3 [0, 1, 2] ⟨agI (by first | (rw [lessD_y (by assumption)]) | (rw [lessD_n (by assumption)])), rfl, trivial⟩ ⟨rfl, rfl, rfl, rfl, rfl, rfl, rfl, trivial⟩ (rfl) rfl (by omega) (by omega)
      · refine ExL.nil ?_
        refine Ex.cond_f rfl ?_
        refine Ex.skip ?_
        refine Ex.region (ExL.pures 0 rfl ?_)
        refine ExL.free (by first | exact fr_add64 rfl rfl rfl (by omega) | exact fr_add rfl rfl rfl) rfl rfl rfl ?_
        refine ExL.pures 1 rfl ?_
        refine ExL.nil ?_
        refine Hand.mk (r + 1) 3 [0, 1, 2] ⟨agI (by first | (rw [lessD_y (by assumption)]) | (rw [lessD_n (by assumption)])), rfl, trivial⟩ ⟨rfl, rfl, rfl, rfl, rfl, rfl, rfl, trivial⟩ (rfl) rfl (by omega) (by omega)
    · refine ExL.nil ?_
      refine Ex.seq ?_
      refine Ex.cond_f rfl ?_
      refine Ex.exit ?_
      obtain rfl : r = (digI (p.l.getD j zMk)).length := (by omega)
      rw [less_end (by omega)]
      refine Ex.regSeq (ExL.pures 3 rfl ?_)
      refine ExL.op rfl (op_ret rfl rfl rfl (c_choices s (by first | assumption | exact stk (by assumption)) p (by assumption) hp _ _ j (by omega)) (Reads.get (Reads.blk (i := 2) rfl)) rfl rfl (fun x7 hx7 => ?_))
      refine ExL.free (by first | exact fr_mul64 rfl rfl rfl (by omega) | exact fr_mul rfl rfl rfl) rfl rfl rfl ?_
      refine ExL.free (by first | exact fr_add64 rfl rfl rfl (by omega) | exact fr_add rfl rfl rfl) rfl rfl rfl ?_
      refine ExL.pures 1 rfl ?_
      refine ExL.nil ?_
      refine Ex.drawSeqM rfl ?_
      refine ExD.take (i := 0) rfl (by kernel_rfl) (pureVal_ok rfl) ((List.Sublist.refl _)) rfl rfl rfl ?_
      refine ExD.take (i := 1) rfl (by kernel_rfl) (fr_indexAddr_b (sz := 2) rfl rfl rfl rfl rfl (by omega)) ((List.Sublist.refl _)) rfl rfl rfl ?_
      refine ExD.take (i := 2) rfl (by kernel_rfl) (fr_loadN rfl rfl rfl rfl rfl (segB (i := 2) rfl encMk_len zMk (by rw [ph_len]; omega))) ((List.Sublist.refl _)) rfl rfl rfl ?_
      refine ExD.take (i := 3) rfl (by kernel_rfl) (pureVal_ok rfl) ((List.Sublist.refl _)) rfl rfl rfl ?_
      refine ExD.take (i := 4) rfl (by kernel_rfl) (fr_indexAddr_b (sz := 1) rfl rfl rfl rfl rfl (by omega)) ((List.Sublist.refl _)) rfl rfl rfl ?_
      refine ExD.take (i := 5) rfl (by kernel_rfl) (fr_load rfl rfl rfl rfl (CellO.blk (i := 1) rfl (blkG (eI_len .u8) 0 rfl (by rw [dig_len]; omega) rfl))) ((List.Sublist.refl _)) rfl rfl rfl ?_
      refine ExD.take (i := 6) rfl (by kernel_rfl) (by first | exact fr_conv64 rfl rfl rfl rfl (by omega) | exact fr_conv rfl rfl rfl rfl) ((List.Sublist.refl _)) rfl rfl rfl ?_
      refine ExD.op (i := 7) rfl (by kernel_rfl) rfl (op_ret rfl rfl rfl (c_has (p.l.getD j zMk) (hp j (by omega)) (a.l.getD j 0) (by omega)) (fun _ _ => trivial) rfl rfl (fun x8 hx8 => ⟨(List.Sublist.refl _), ?_⟩))
      refine ExD.take (i := 8) rfl (by kernel_rfl) (pureVal_ok rfl) ((List.Sublist.refl _)) rfl rfl rfl ?_
      refine ExD.done (by kernel_rfl) ?_
      refine Ex.cond rfl (fun hb9 => ?_) (fun hb9 => ?_)
      · replace hb9 := nb_t hb9
        refine Ex.exit ?_
        first | (obtain rfl : k = 0 := (by omega)) | skip
        refine Ex.regSeq (ExL.pures 2 rfl ?_)
        refine ExL.nil ?_
        refine Ex.ret ?_
        refine RetQ.mk () rfl (.tmp rfl .nil) (tI (by first | exact (bel_end (by assumption)) | exact bel_stop hinv (by assumption))) [] (rfl) rfl (trivial)
      · replace hb9 := nb_f hb9
        refine Ex.skip ?_
        refine Ex.region (ExL.pures 1 rfl ?_)
        refine ExL.free (by first | exact fr_sub64 rfl rfl rfl (by omega) | exact fr_sub rfl rfl rfl) rfl rfl rfl ?_
        refine ExL.pures 1 rfl ?_
        refine ExL.nil ?_
        refine Hand.mk (j) 3 [1, 2] ⟨agI (by rw [acc_s hjs]), agI (by omega), trivial⟩ ⟨rfl, rfl, rfl, trivial⟩ (rfl) rfl (⟨by omega, bel_step hjs hinv (by assumption)⟩) (Nat.lt_succ_self _)
  · refine ExL.nil ?_
    refine Ex.cond_f rfl ?_
    refine Ex.exit ?_
    first | (obtain rfl : k = 0 := (by omega)) | skip
    refine Ex.regSeq (ExL.pures 2 rfl ?_)
    refine ExL.nil ?_
    refine Ex.ret ?_
    refine RetQ.mk () rfl (.tmp rfl .nil) (tI (by first | exact (bel_end (by assumption)) | exact bel_stop hinv (by assumption))) [] (rfl) rfl (trivial)
end Go.Proofs.Ytplljnddhkleaaa
