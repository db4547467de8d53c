/- Several texts, one behind the other. -/
import Derived.Test.YthocfcgiikobkaaProg
import Derived.Test.YthocfcgiikobkaaXaa
import Derived.Test.YthocfcgiikobkaaXab
import Derived.Test.YthocfcgiikobkaaXba
import Derived.Test.YthocfcgiikobkaaXbb
/- What these functions of the program hand back, each proved by walking its operations. -/
set_option linter.unusedVariables false
set_option linter.unusedSimpArgs false
set_option maxRecDepth 4000
namespace Go.Proofs.Ythocfcgiikobkaa
open Go Go.Sx Go.RowKit Go.W Go.Proofs
attribute [local irreducible] Ex ExL ExD Op1 Free RetQ MutQ Reads CellO SegO LoadsAs
theorem e_42 : Enters Try.prog 42 := Enters.of Try.func42 rfl
theorem c_next (code : List Int) (Ac : Option Addr) (cc : Nat) (hcl : code.length ≤ maxLen) (hcu : Nums 255 code) (b : Nat) (at_ sd : Int) (hat : 0 ≤ at_ ∧ at_ ≤ 2000000000) : Mut Try.prog 42 [.pointer (some ⟨b, 0, none⟩)] [.blk b [.slice Ac code.length cc, .int .i64 at_, .int .u64 sd] 88] (fun base w0 F => RdB base w0 Ac (code.flatMap (eI .u8))) (fun x : Int × Int => .int .i64 x.1) (fun x => [.blk b [.slice Ac code.length cc, .int .i64 (at_ + 1), .int .u64 x.2] 88]) (fun x => 0 ≤ x.1 ∧ x.1 ≤ 255) := by
  refine Mut.of e_42 Try.func42 rfl Try.ntmps42 rfl rfl (fun base w0 F hfr => ?_)
  have hcode := hfr
  have hx := hcu.at_ (by omega) at_.toNat
  have hm0 : maxLen = 9223372036854775807 := rfl
  refine Ex.regSeq (ExL.pures 1 rfl ?_)
  refine ExL.nil ?_
  refine Ex.regSeq (ExL.pures 1 rfl ?_)
  refine ExL.nil ?_
  refine Ex.seq ?_
  refine Ex.drawSeqM rfl ?_
  refine ExD.take (i := 0) rfl (by kernel_rfl) (pureVal_ok rfl) ((List.Sublist.refl _)) rfl rfl rfl ?_
  refine ExD.take (i := 1) rfl (by kernel_rfl) (pureVal_ok rfl) ((List.Sublist.refl _)) rfl rfl rfl ?_
  refine ExD.take (i := 2) rfl (by kernel_rfl) (pureVal_ok rfl) ((List.Sublist.refl _)) rfl rfl rfl ?_
  refine ExD.take (i := 3) rfl (by kernel_rfl) (fr_load rfl rfl rfl rfl (CellO.blk (i := 0) rfl rfl)) ((List.Sublist.refl _)) rfl rfl rfl ?_
  refine ExD.take (i := 4) rfl (by kernel_rfl) (pureVal_ok rfl) ((List.Sublist.refl _)) rfl rfl rfl ?_
  refine ExD.take (i := 5) rfl (by kernel_rfl) (pureVal_ok rfl) ((List.Sublist.refl _)) rfl rfl rfl ?_
  refine ExD.take (i := 6) rfl (by kernel_rfl) (pureVal_ok rfl) ((List.Sublist.refl _)) rfl rfl rfl ?_
  refine ExD.take (i := 7) rfl (by kernel_rfl) (fr_load rfl rfl rfl rfl (CellO.blk (i := 0) rfl rfl)) ((List.Sublist.refl _)) rfl rfl rfl ?_
  refine ExD.take (i := 8) rfl (by kernel_rfl) (pureVal_ok rfl) ((List.Sublist.refl _)) rfl rfl rfl ?_
  refine ExD.cmp_lss (i := 9) rfl (by kernel_rfl) rfl rfl rfl ((List.Sublist.refl _)) rfl rfl rfl (fun h1 => ?_) (fun h1 => ?_)
  · refine ExD.done (by kernel_rfl) ?_
    refine Ex.cond_t rfl ?_
    refine Ex.drawM rfl ?_
    refine ExD.take (i := 0) rfl (by kernel_rfl) (pureVal_ok rfl) ((List.Sublist.refl _)) rfl rfl rfl ?_
    refine ExD.take (i := 1) rfl (by kernel_rfl) (pureVal_ok rfl) ((List.Sublist.refl _)) rfl rfl rfl ?_
    refine ExD.take (i := 2) rfl (by kernel_rfl) (pureVal_ok rfl) ((List.Sublist.refl _)) rfl rfl rfl ?_
    refine ExD.take (i := 3) rfl (by kernel_rfl) (fr_load rfl rfl rfl rfl (CellO.blk (i := 0) rfl rfl)) ((List.Sublist.refl _)) rfl rfl rfl ?_
    refine ExD.take (i := 4) rfl (by kernel_rfl) (pureVal_ok rfl) ((List.Sublist.refl _)) rfl rfl rfl ?_
    refine ExD.take (i := 5) rfl (by kernel_rfl) (pureVal_ok rfl) ((List.Sublist.refl _)) rfl rfl rfl ?_
    refine ExD.take (i := 6) rfl (by kernel_rfl) (pureVal_ok rfl) ((List.Sublist.refl _)) rfl rfl rfl ?_
    refine ExD.take (i := 7) rfl (by kernel_rfl) (fr_load rfl rfl rfl rfl (CellO.blk (i := 0) rfl rfl)) ((List.Sublist.refl _)) rfl rfl rfl ?_
    refine ExD.take (i := 8) rfl (by kernel_rfl) (fr_indexAddrF (Reads.old hcode) (eI_len .u8) rfl rfl rfl rfl rfl rfl (by omega)) ((List.Sublist.refl _)) rfl rfl rfl ?_
    refine ExD.take (i := 9) rfl (by kernel_rfl) (fr_load rfl rfl rfl rfl (by first | exact cellN (Reads.old hcode) (eI_len .u8) 0 0 rfl (by omega) rfl | exact cellF (Reads.old hcode) (eI_len .u8) 0 0 rfl (by omega) rfl)) ((List.Sublist.refl _)) rfl rfl rfl ?_
    refine ExD.take (i := 10) rfl (by kernel_rfl) (by first | exact fr_conv64 rfl rfl rfl rfl (by omega) | exact fr_conv rfl rfl rfl rfl) ((List.Sublist.refl _)) rfl rfl rfl ?_
    refine ExD.take (i := 11) rfl (by kernel_rfl) (pureVal_ok rfl) ((List.Sublist.refl _)) rfl rfl rfl ?_
    refine ExD.done (by kernel_rfl) ?_
    refine Ex.regSeq (ExL.pures 3 rfl ?_)
    refine ExL.free (fr_load rfl rfl rfl rfl (CellO.blk (i := 0) rfl rfl)) rfl rfl rfl ?_
    refine ExL.free (by first | exact fr_add64 rfl rfl rfl (by omega) | exact fr_add rfl rfl rfl) rfl rfl rfl ?_
    refine ExL.pures 2 rfl ?_
    refine ExL.op rfl (op_storeC (i := 0) rfl rfl rfl rfl rfl rfl rfl rfl rfl rfl ?_)
    refine ExL.nil ?_
    refine Ex.regSeq (ExL.pures 4 rfl ?_)
    refine ExL.free (fr_load rfl rfl rfl rfl (CellO.blk (i := 0) rfl rfl)) rfl rfl rfl ?_
    refine ExL.free (fr_mul rfl rfl rfl) rfl rfl rfl ?_
    refine ExL.pures 1 rfl ?_
    refine ExL.free (by first | exact fr_conv_u64 rfl rfl rfl rfl (by omega) | exact fr_conv rfl rfl rfl rfl) rfl rfl rfl ?_
    refine ExL.free (fr_add rfl rfl rfl) rfl rfl rfl ?_
    refine ExL.free (fr_add rfl rfl rfl) rfl rfl rfl ?_
    refine ExL.pures 2 rfl ?_
    refine ExL.op rfl (op_storeC (i := 0) rfl rfl rfl rfl rfl rfl rfl rfl rfl rfl ?_)
    refine ExL.nil ?_
    refine Ex.seq ?_
    refine Ex.drawSeqM rfl ?_
    refine ExD.take (i := 0) rfl (by kernel_rfl) (pureVal_ok rfl) ((List.Sublist.refl _)) rfl rfl rfl ?_
    refine ExD.take (i := 1) rfl (by kernel_rfl) (pureVal_ok rfl) ((List.Sublist.refl _)) rfl rfl rfl ?_
    refine ExD.take (i := 2) rfl (by kernel_rfl) (pureVal_ok rfl) ((List.Sublist.refl _)) rfl rfl rfl ?_
    refine ExD.take (i := 3) rfl (by kernel_rfl) (fr_load rfl rfl rfl rfl (CellO.blk (i := 0) rfl rfl)) ((List.Sublist.refl _)) rfl rfl rfl ?_
    refine ExD.take (i := 4) rfl (by kernel_rfl) (pureVal_ok rfl) ((List.Sublist.refl _)) rfl rfl rfl ?_
    refine ExD.take (i := 5) rfl (by kernel_rfl) (pureVal_ok rfl) ((List.Sublist.refl _)) rfl rfl rfl ?_
    refine ExD.take (i := 6) rfl (by kernel_rfl) (pureVal_ok rfl) ((List.Sublist.refl _)) rfl rfl rfl ?_
    refine ExD.take (i := 7) rfl (by kernel_rfl) (fr_load rfl rfl rfl rfl (CellO.blk (i := 0) rfl rfl)) ((List.Sublist.refl _)) rfl rfl rfl ?_
    refine ExD.take (i := 8) rfl (by kernel_rfl) (pureVal_ok rfl) ((List.Sublist.refl _)) rfl rfl rfl ?_
    refine ExD.cmp_leq (i := 9) rfl (by kernel_rfl) rfl rfl rfl ((List.Sublist.refl _)) rfl rfl rfl (fun h2 => ?_) (fun h2 => ?_)
    · refine ExD.done (by kernel_rfl) ?_
      refine Ex.cond_t rfl ?_
      refine Ex.regSeq (ExL.pures 2 rfl ?_)
      refine ExL.nil ?_
      refine Ex.ret ?_
      refine MutQ.mk (_, _) rfl (.tmp rfl .nil) (rfl) 1 [0] (rfl) rfl (by refine ⟨?_, ?_⟩ <;> first | exact hx.1 | exact hx.2 | (dsimp only; omega))
    · refine ExD.done (by kernel_rfl) ?_
      refine Ex.cond_f rfl ?_
      refine Ex.skip ?_
      refine Ex.regSeq (ExL.pures 3 rfl ?_)
      refine ExL.free (fr_load rfl rfl rfl rfl (CellO.blk (i := 0) rfl rfl)) rfl rfl rfl ?_
      refine ExL.free (fr_shr40 rfl rfl rfl) rfl rfl rfl ?_
      refine ExL.free (fr_and255w rfl rfl rfl) rfl rfl rfl ?_
      refine ExL.free (by first | exact fr_conv64 rfl rfl rfl rfl (by omega) | exact fr_conv rfl rfl rfl rfl) rfl rfl rfl ?_
      refine ExL.pures 1 rfl ?_
      refine ExL.nil ?_
      refine Ex.ret ?_
      refine MutQ.mk (_, _) rfl (.tmp rfl .nil) (rfl) 1 [0] (rfl) rfl (by refine ⟨?_, ?_⟩ <;> first | exact hx.1 | exact hx.2 | (dsimp only; omega))
  · refine ExD.done (by kernel_rfl) ?_
    refine Ex.cond_f rfl ?_
    refine Ex.skip ?_
    refine Ex.regSeq (ExL.pures 3 rfl ?_)
    refine ExL.free (fr_load rfl rfl rfl rfl (CellO.blk (i := 0) rfl rfl)) rfl rfl rfl ?_
    refine ExL.free (by first | exact fr_add64 rfl rfl rfl (by omega) | exact fr_add rfl rfl rfl) rfl rfl rfl ?_
    refine ExL.pures 2 rfl ?_
    refine ExL.op rfl (op_storeC (i := 0) rfl rfl rfl rfl rfl rfl rfl rfl rfl rfl ?_)
    refine ExL.nil ?_
    refine Ex.regSeq (ExL.pures 4 rfl ?_)
    refine ExL.free (fr_load rfl rfl rfl rfl (CellO.blk (i := 0) rfl rfl)) rfl rfl rfl ?_
    refine ExL.free (fr_mul rfl rfl rfl) rfl rfl rfl ?_
    refine ExL.pures 1 rfl ?_
    refine ExL.free (by first | exact fr_conv_u64 rfl rfl rfl rfl (by omega) | exact fr_conv rfl rfl rfl rfl) rfl rfl rfl ?_
    refine ExL.free (fr_add rfl rfl rfl) rfl rfl rfl ?_
    refine ExL.free (fr_add rfl rfl rfl) rfl rfl rfl ?_
    refine ExL.pures 2 rfl ?_
    refine ExL.op rfl (op_storeC (i := 0) rfl rfl rfl rfl rfl rfl rfl rfl rfl rfl ?_)
    refine ExL.nil ?_
    refine Ex.seq ?_
    refine Ex.drawSeqM rfl ?_
    refine ExD.take (i := 0) rfl (by kernel_rfl) (pureVal_ok rfl) ((List.Sublist.refl _)) rfl rfl rfl ?_
    refine ExD.take (i := 1) rfl (by kernel_rfl) (pureVal_ok rfl) ((List.Sublist.refl _)) rfl rfl rfl ?_
    refine ExD.take (i := 2) rfl (by kernel_rfl) (pureVal_ok rfl) ((List.Sublist.refl _)) rfl rfl rfl ?_
    refine ExD.take (i := 3) rfl (by kernel_rfl) (fr_load rfl rfl rfl rfl (CellO.blk (i := 0) rfl rfl)) ((List.Sublist.refl _)) rfl rfl rfl ?_
    refine ExD.take (i := 4) rfl (by kernel_rfl) (pureVal_ok rfl) ((List.Sublist.refl _)) rfl rfl rfl ?_
    refine ExD.take (i := 5) rfl (by kernel_rfl) (pureVal_ok rfl) ((List.Sublist.refl _)) rfl rfl rfl ?_
    refine ExD.take (i := 6) rfl (by kernel_rfl) (pureVal_ok rfl) ((List.Sublist.refl _)) rfl rfl rfl ?_
    refine ExD.take (i := 7) rfl (by kernel_rfl) (fr_load rfl rfl rfl rfl (CellO.blk (i := 0) rfl rfl)) ((List.Sublist.refl _)) rfl rfl rfl ?_
    refine ExD.take (i := 8) rfl (by kernel_rfl) (pureVal_ok rfl) ((List.Sublist.refl _)) rfl rfl rfl ?_
    refine ExD.cmp_leq (i := 9) rfl (by kernel_rfl) rfl rfl rfl ((List.Sublist.refl _)) rfl rfl rfl (fun h3 => ?_) (fun h3 => ?_)
    · refine ExD.done (by kernel_rfl) ?_
      refine Ex.cond_t rfl ?_
      refine Ex.regSeq (ExL.pures 2 rfl ?_)
      refine ExL.nil ?_
      refine Ex.ret ?_
      refine MutQ.mk (_, _) rfl (.tmp rfl .nil) (rfl) 1 [0] (rfl) rfl (by refine ⟨?_, ?_⟩ <;> first | exact hx.1 | exact hx.2 | (dsimp only; omega))
    · refine ExD.done (by kernel_rfl) ?_
      refine Ex.cond_f rfl ?_
      refine Ex.skip ?_
      refine Ex.regSeq (ExL.pures 3 rfl ?_)
      refine ExL.free (fr_load rfl rfl rfl rfl (CellO.blk (i := 0) rfl rfl)) rfl rfl rfl ?_
      refine ExL.free (fr_shr40 rfl rfl rfl) rfl rfl rfl ?_
      refine ExL.free (fr_and255w rfl rfl rfl) rfl rfl rfl ?_
      refine ExL.free (by first | exact fr_conv64 rfl rfl rfl rfl (by omega) | exact fr_conv rfl rfl rfl rfl) rfl rfl rfl ?_
      refine ExL.pures 1 rfl ?_
      refine ExL.nil ?_
      refine Ex.ret ?_
      refine MutQ.mk (_, _) rfl (.tmp rfl .nil) (rfl) 1 [0] (rfl) rfl (by refine ⟨?_, ?_⟩ <;> first | exact hx.1 | exact hx.2 | (dsimp only; omega))
theorem e_22 : Enters Try.prog 22 := Enters.of Try.func22 rfl
theorem c_pick (code : List Int) (Ac : Option Addr) (cc : Nat) (hcl : code.length ≤ maxLen) (hcu : Nums 255 code) (b : Nat) (at_ sd : Int) (hat : 0 ≤ at_ ∧ at_ ≤ 1000000000) (n : Int) (hn : n ≤ 9223372036854775807) : Mut Try.prog 22 [.pointer (some ⟨b, 0, none⟩), .int .i64 n] [.blk b [.slice Ac code.length cc, .int .i64 at_, .int .u64 sd] 88] (fun base w0 F => RdB base w0 Ac (code.flatMap (eI .u8))) (fun x : Int × Int × Int => .int .i64 x.1) (fun x => [.blk b [.slice Ac code.length cc, .int .i64 x.2.1, .int .u64 x.2.2] 88]) (fun x => 0 ≤ x.1 ∧ (x.1 < n ∨ x.1 = 0) ∧ at_ ≤ x.2.1 ∧ x.2.1 ≤ at_ + 2 ∧ x.1 ≤ 65535) := by
  refine Mut.of e_22 Try.func22 rfl Try.ntmps22 rfl rfl (fun base w0 F hfr => ?_)
  have hcode := hfr
  have hm0 : maxLen = 9223372036854775807 := rfl
  refine Ex.regSeq (ExL.pures 1 rfl ?_)
  refine ExL.nil ?_
  refine Ex.seq ?_
  refine Ex.regSeq (ExL.pures 1 rfl ?_)
  refine ExL.leq rfl rfl rfl rfl rfl rfl (fun h1 => ?_) (fun h1 => ?_)
  · refine ExL.nil ?_
    refine Ex.cond_t rfl ?_
    refine Ex.regSeq (ExL.pures 1 rfl ?_)
    refine ExL.nil ?_
    refine Ex.ret ?_
    refine MutQ.mk (_, _, _) rfl (.tmp rfl .nil) (rfl) 1 [0] (rfl) rfl (by refine ⟨?_, ?_, ?_, ?_, ?_⟩ <;> first | exact hm1 _ | exact .inl (hm2 _) | (dsimp only; omega) | (refine Int.le_trans (hm3 _ ?_) ?_ <;> omega))
  · refine ExL.nil ?_
    refine Ex.cond_f rfl ?_
    refine Ex.skip ?_
    refine Ex.regSeq (ExL.pures 1 rfl ?_)
    refine ExL.op rfl (op_mut rfl rfl rfl (c_next code _ _ (by omega) (by assumption) _ at_ _ (by omega)) (perm_at (i := 0) rfl) (hcode) rfl rfl (fun x2 hx2 => ?_))
    refine ExL.pures 1 rfl ?_
    refine ExL.nil ?_
    refine Ex.seq ?_
    refine Ex.regSeq (ExL.pures 1 rfl ?_)
    refine ExL.gtr rfl rfl rfl rfl rfl rfl (fun h3 => ?_) (fun h3 => ?_)
    · refine ExL.nil ?_
      refine Ex.cond_t rfl ?_
      refine Ex.region (ExL.pures 1 rfl ?_)
      refine ExL.free (by first | exact fr_mul64 rfl rfl rfl (by omega) | exact fr_mul rfl rfl rfl) rfl rfl rfl ?_
      refine ExL.pures 1 rfl ?_
      refine ExL.op rfl (op_mut rfl rfl rfl (c_next code _ _ (by omega) (by assumption) _ (at_ + 1) _ (by omega)) (perm_at (i := 0) rfl) (hcode) rfl rfl (fun x4 hx4 => ?_))
      refine ExL.free (by first | exact fr_add64 rfl rfl rfl (by omega) | exact fr_add rfl rfl rfl) rfl rfl rfl ?_
      refine ExL.pures 1 rfl ?_
      refine ExL.nil ?_
      have hm1 := fun z => Int.emod_nonneg z (show n ≠ 0 by omega)
      have hm2 := fun z => Int.emod_lt_of_pos z (show 0 < n by omega)
      have hm3 := fun z hz => mod_le (z := z) (n := n) hz (by omega)
      refine Ex.regSeq (ExL.pures 2 rfl ?_)
      refine ExL.free (by first | exact fr_remP rfl rfl rfl (by omega) | exact fr_rem rfl rfl rfl (by omega)) rfl rfl rfl ?_
      refine ExL.pures 1 rfl ?_
      refine ExL.nil ?_
      refine Ex.ret ?_
      refine MutQ.mk (_, _, _) rfl (.tmp rfl .nil) (rfl) 1 [0] (rfl) rfl (by refine ⟨?_, ?_, ?_, ?_, ?_⟩ <;> first | exact hm1 _ | exact .inl (hm2 _) | (dsimp only; omega) | (refine Int.le_trans (hm3 _ ?_) ?_ <;> omega))
    · refine ExL.nil ?_
      refine Ex.cond_f rfl ?_
      refine Ex.skip ?_
      have hm1 := fun z => Int.emod_nonneg z (show n ≠ 0 by omega)
      have hm2 := fun z => Int.emod_lt_of_pos z (show 0 < n by omega)
      have hm3 := fun z hz => mod_le (z := z) (n := n) hz (by omega)
      refine Ex.regSeq (ExL.pures 2 rfl ?_)
      refine ExL.free (by first | exact fr_remP rfl rfl rfl (by omega) | exact fr_rem rfl rfl rfl (by omega)) rfl rfl rfl ?_
      refine ExL.pures 1 rfl ?_
      refine ExL.nil ?_
      refine Ex.ret ?_
      refine MutQ.mk (_, _, _) rfl (.tmp rfl .nil) (rfl) 1 [0] (rfl) rfl (by refine ⟨?_, ?_, ?_, ?_, ?_⟩ <;> first | exact hm1 _ | exact .inl (hm2 _) | (dsimp only; omega) | (refine Int.le_trans (hm3 _ ?_) ?_ <;> omega))
end Go.Proofs.Ythocfcgiikobkaa

/- What these functions of the program hand back, each proved by walking its operations. -/
set_option linter.unusedVariables false
set_option linter.unusedSimpArgs false
set_option maxRecDepth 4000
namespace Go.Proofs.Ythocfcgiikobkaa
open Go Go.Sx Go.RowKit Go.W Go.Proofs
attribute [local irreducible] Ex ExL ExD Op1 Free RetQ MutQ Reads CellO SegO LoadsAs
theorem e_21 : Enters Try.prog 21 := Enters.of Try.func21 rfl
theorem c_l00From (code : List Int) (Ac : Option Addr) (cc : Nat) : Ret Try.prog 21 [.slice Ac code.length cc] (fun w => True) (fun x : Nat => .pointer (some ⟨x, 0, none⟩)) (fun x => [.blk x [.slice Ac code.length cc, .int .i64 0, .int .u64 0] 88]) (fun x => True) := by
  refine Ret.of e_21 Try.func21 rfl Try.ntmps21 rfl rfl (fun w hpre => ?_)
  refine Ex.regSeq (ExL.pures 1 rfl ?_)
  refine ExL.nil ?_
  refine Ex.regSeq (ExL.pures 1 rfl ?_)
  refine ExL.free (fr_build rfl rfl rfl rfl) rfl rfl rfl ?_
  refine ExL.op rfl (op_box rfl rfl rfl rfl rfl (fun b1 => ?_))
  refine ExL.pures 1 rfl ?_
  refine ExL.nil ?_
  refine Ex.ret ?_
  refine RetQ.mk _ rfl (.tmp rfl .nil) (rfl) [0] (rfl) rfl (trivial)
end Go.Proofs.Ythocfcgiikobkaa

/- What these functions of the program hand back, each proved by walking its operations. -/
set_option linter.unusedVariables false
set_option linter.unusedSimpArgs false
set_option maxRecDepth 4000
namespace Go.Proofs.Ythocfcgiikobkaa
open Go Go.Sx Go.RowKit Go.W Go.Proofs
attribute [local irreducible] Ex ExL ExD Op1 Free RetQ MutQ Reads CellO SegO LoadsAs
theorem e_4 : Enters Try.prog 4 := Enters.of Try.func4 rfl
theorem c_f6big (s : List Int) (As : Option Addr) (cs : Nat) (hls : s.length ≤ maxLen) : Ret Try.prog 4 [.slice As s.length cs] (fun w => True) (fun x : Unit => .bool (decide (4096 < s.length))) (fun x => []) (fun x => True) := by
  refine Ret.of e_4 Try.func4 rfl Try.ntmps4 rfl rfl (fun w hpre => ?_)
  have hm0 : maxLen = 9223372036854775807 := rfl
  refine Ex.regSeq (ExL.pures 1 rfl ?_)
  refine ExL.nil ?_
  refine Ex.regSeq (ExL.pures 2 rfl ?_)
  refine ExL.gtr rfl rfl rfl rfl rfl rfl (fun h1 => ?_) (fun h1 => ?_)
  · refine ExL.pures 1 rfl ?_
    refine ExL.nil ?_
    refine Ex.ret ?_
    refine RetQ.mk () rfl (.tmp rfl .nil) (tB (by first | exact dec_t (by omega) | exact dec_f (by omega) | exact decide_eq_decide.2 (by omega))) [] (rfl) rfl (trivial)
  · refine ExL.pures 1 rfl ?_
    refine ExL.nil ?_
    refine Ex.ret ?_
    refine RetQ.mk () rfl (.tmp rfl .nil) (tB (by first | exact dec_t (by omega) | exact dec_f (by omega) | exact decide_eq_decide.2 (by omega))) [] (rfl) rfl (trivial)
theorem e_23 : Enters Try.prog 23 := Enters.of Try.func23 rfl
theorem c_among (code : List Int) (Ac : Option Addr) (cc : Nat) (hcl : code.length ≤ maxLen) (hcu : Nums 255 code) (b : Nat) (at_ sd : Int) (hat : 0 ≤ at_ ∧ at_ ≤ 1000000000) (l : List Int) (Al : Option Addr) (cl : Nat) (hll : 0 < l.length ∧ l.length ≤ 60000) : Mut Try.prog 23 [.pointer (some ⟨b, 0, none⟩), .slice Al l.length cl] [.blk b [.slice Ac code.length cc, .int .i64 at_, .int .u64 sd] 88, .row (.slice Al l.length cl) 2 1 l.length (l.flatMap (eI .i64))] (fun base w0 F => RdB base w0 Ac (code.flatMap (eI .u8))) (fun x : Nat × Int × Int => .int .i64 (l.getD x.1 0)) (fun x => [.blk b [.slice Ac code.length cc, .int .i64 x.2.1, .int .u64 x.2.2] 88, .row (.slice Al l.length cl) 2 1 l.length (l.flatMap (eI .i64))]) (fun x => x.1 < l.length ∧ at_ ≤ x.2.1 ∧ x.2.1 ≤ at_ + 2) := by
  refine Mut.of e_23 Try.func23 rfl Try.ntmps23 rfl rfl (fun base w0 F hfr => ?_)
  have hcode := hfr
  have hm0 : maxLen = 9223372036854775807 := rfl
  refine Ex.regSeq (ExL.pures 1 rfl ?_)
  refine ExL.nil ?_
  refine Ex.regSeq (ExL.pures 4 rfl ?_)
  refine ExL.op rfl (op_mut rfl rfl rfl (c_pick code _ _ (by omega) (by assumption) _ at_ _ (by omega) l.length (by omega)) (perm_at (i := 0) rfl) (hcode) rfl rfl (fun x1 hx1 => ?_))
  refine ExL.free (fr_indexAddrR (sz := 1) 1 rfl rfl rfl rfl rfl rfl (by omega)) rfl rfl rfl ?_
  refine ExL.free (fr_load rfl rfl rfl rfl (by first | exact cellN (Reads.row (i := 1) rfl) (eI_len .i64) 0 0 rfl (by omega) rfl | exact cellF (Reads.row (i := 1) rfl) (eI_len .i64) 0 0 rfl (by omega) rfl)) rfl rfl rfl ?_
  refine ExL.pures 1 rfl ?_
  refine ExL.nil ?_
  refine Ex.ret ?_
  refine MutQ.mk (x1.1.toNat, x1.2.1, x1.2.2) rfl (.tmp rfl .nil) (tI (by first | rfl | (simp; done))) 2 [0, 1] (rfl) rfl (by refine ⟨?_, ?_, ?_⟩ <;> dsimp only <;> omega)
theorem e_41 : Enters Try.prog 41 := Enters.of Try.func41 rfl
theorem c_one (code : List Int) (Ac : Option Addr) (cc : Nat) (hcl : code.length ≤ maxLen) (hcu : Nums 255 code) (b : Nat) (at_ sd : Int) (hat : 0 ≤ at_ ∧ at_ ≤ 1000000000) (n : Int) (hn : n ≤ 60000) : Mut Try.prog 41 [.pointer (some ⟨b, 0, none⟩), .int .i64 n] [.blk b [.slice Ac code.length cc, .int .i64 at_, .int .u64 sd] 88] (fun base w0 F => RdB base w0 Ac (code.flatMap (eI .u8))) (fun x : Bool × Int × Int => .bool x.1) (fun x => [.blk b [.slice Ac code.length cc, .int .i64 x.2.1, .int .u64 x.2.2] 88]) (fun x => at_ ≤ x.2.1 ∧ x.2.1 ≤ at_ + 2) := by
  refine Mut.of e_41 Try.func41 rfl Try.ntmps41 rfl rfl (fun base w0 F hfr => ?_)
  have hcode := hfr
  have hm0 : maxLen = 9223372036854775807 := rfl
  refine Ex.regSeq (ExL.pures 1 rfl ?_)
  refine ExL.nil ?_
  refine Ex.regSeq (ExL.pures 2 rfl ?_)
  refine ExL.op rfl (op_mut rfl rfl rfl (c_pick code _ _ (by omega) (by assumption) _ at_ _ (by omega) n (by omega)) (perm_at (i := 0) rfl) (hcode) rfl rfl (fun x1 hx1 => ?_))
  refine ExL.free (fr_eql rfl rfl rfl) rfl rfl rfl ?_
  refine ExL.pures 1 rfl ?_
  refine ExL.nil ?_
  refine Ex.ret ?_
  refine MutQ.mk (_, x1.2.1, x1.2.2) rfl (.tmp rfl .nil) (rfl) 1 [0] (rfl) rfl (by constructor <;> dsimp only <;> omega)
end Go.Proofs.Ythocfcgiikobkaa

/- What these functions of the program hand back, each proved by walking its operations. -/
set_option linter.unusedVariables false
set_option linter.unusedSimpArgs false
set_option maxRecDepth 4000
namespace Go.Proofs.Ythocfcgiikobkaa
open Go Go.Sx Go.RowKit Go.W Go.Proofs
attribute [local irreducible] Ex ExL ExD Op1 Free RetQ MutQ Reads CellO SegO LoadsAs
theorem e_39 : Enters Try.prog 39 := Enters.of Try.func39 rfl
theorem c_l01Drawn (code : List Int) (Ac : Option Addr) (cc : Nat) (hcl : code.length ≤ maxLen) (hcu : Nums 255 code) (b : Nat) (at_ sd : Int) (hat : 0 ≤ at_ ∧ at_ ≤ 1000000) : Mut Try.prog 39 [.pointer (some ⟨b, 0, none⟩)] [.blk b [.slice Ac code.length cc, .int .i64 at_, .int .u64 sd] 88] (fun base w0 F => RdB base w0 Ac (code.flatMap (eI .u8))) (fun x : (Int × Int) × (Option Addr × Nat) × List Int => .slice x.2.1.1 x.2.2.length x.2.1.2) (fun x => [.blk b [.slice Ac code.length cc, .int .i64 x.1.1, .int .u64 x.1.2] 88, .row (.slice x.2.1.1 x.2.2.length x.2.1.2) 5 1 x.2.2.length (x.2.2.flatMap (eI .u8))]) (fun x => DrStk x.2.2 ∧ at_ ≤ x.1.1 ∧ x.1.1 ≤ at_ + 10) := by
  refine Mut.of e_39 Try.func39 rfl Try.ntmps39 rfl rfl (fun base w0 F hfr => ?_)
  have hcode := hfr
  have hm0 : maxLen = 9223372036854775807 := rfl
  refine Ex.regSeq (ExL.pures 1 rfl ?_)
  refine ExL.nil ?_
  refine Ex.regSeq (ExL.pures 0 rfl ?_)
  refine ExL.op rfl (op_buildSlice (sz := 1) rfl rfl rfl rfl rfl rfl rfl rfl (by decide) rfl rfl rfl (fun r1 => ?_))
  refine ExL.pures 1 rfl ?_
  refine ExL.nil ?_
  refine Ex.seq ?_
  refine Ex.regSeq (ExL.pures 1 rfl ?_)
  refine ExL.op rfl (op_mut rfl rfl rfl (c_pick code _ _ (by omega) (by assumption) _ at_ _ (by omega) 4 (by omega)) (perm_at (i := 1) rfl) (hcode) rfl rfl (fun x2 hx2 => ?_))
  refine ExL.free (by first | exact fr_add64 rfl rfl rfl (by omega) | exact fr_add rfl rfl rfl) rfl rfl rfl ?_
  refine ExL.pures 1 rfl ?_
  refine ExL.nil ?_
  refine Ex.block ?_
  refine Ex.loopK (X := StS) (fun q => [(3, .slice q.A q.l.length q.c), (4, .int .i64 q.k)]) (fun q => [.blk b [.slice Ac code.length cc, .int .i64 q.at_, .int .u64 q.sd] 88, .row (.slice q.A q.l.length q.c) 5 1 q.l.length (q.l.flatMap (eI .u8))]) (fun q => StkP q.l ∧ (q.l.length : Int) + q.k ≤ 4 ∧ 1 ≤ (q.l.length : Int) + q.k ∧ 0 ≤ q.k ∧ at_ ≤ q.at_ ∧ q.at_ ≤ at_ + 2 + 2 * q.l.length) (fun q => q.k.toNat) (⟨[], (1 + x2.1), x2.2.1, x2.2.2, (some ⟨r1, 0, none⟩), 0⟩ : StS) [(0, _), (2, _)] (F) 2 [0, 1] ⟨rfl, rfl, trivial⟩ ⟨rfl, rfl, trivial⟩ (rfl) rfl ⟨StkP.nil, by dsimp only [List.length_nil]; omega, by dsimp only [List.length_nil]; omega, by dsimp only; omega, by dsimp only; omega, by dsimp only [List.length_nil]; omega⟩ (fun q hI => ?_)
  have hI : StkP q.l ∧ (q.l.length : Int) + q.k ≤ 4 ∧ 1 ≤ (q.l.length : Int) + q.k ∧ 0 ≤ q.k ∧ at_ ≤ q.at_ ∧ q.at_ ≤ at_ + 2 + 2 * q.l.length := hI
  obtain ⟨hP, hlk, hlk1, hk0, hat1, hat2⟩ := hI
  refine Ex.seq ?_
  refine Ex.regSeq (ExL.pures 1 rfl ?_)
  refine ExL.gtr rfl rfl rfl rfl rfl rfl (fun h3 => ?_) (fun h3 => ?_)
  · refine ExL.nil ?_
    refine Ex.cond_t rfl ?_
    refine Ex.skip ?_
    refine Ex.seq ?_
    refine Ex.block ?_
    refine Ex.region (ExL.pures 2 rfl ?_)
    refine ExL.op rfl (op_buildSlice (sz := 1) rfl rfl rfl rfl rfl rfl rfl rfl (by decide) rfl rfl rfl (fun r4 => ?_))
    refine ExL.op rfl (op_mut rfl rfl rfl (c_among code _ _ (by omega) (by assumption) _ q.at_ _ (by omega) [10, 10, 10, 60, 24, 2, 3, 12, 100] _ _ (by decide)) (perm_gt (i := 1) (j := 0) rfl rfl rfl) (hcode) rfl rfl (fun x5 hx5 => ?_))
    have hmx5 := getD_mem (s := [10, 10, 10, 60, 24, 2, 3, 12, 100]) 0 hx5.1
    simp only [List.mem_cons, List.not_mem_nil, or_false] at hmx5
    refine ExL.free (by first | exact fr_conv_u8 rfl rfl rfl rfl (by omega) | exact fr_conv rfl rfl rfl rfl) rfl rfl rfl ?_
    refine ExL.op rfl (op_buildSlice (sz := 1) rfl rfl rfl rfl rfl rfl rfl rfl (by decide) rfl rfl rfl (fun r6 => ?_))
    refine ExL.op rfl (op_append (sz := 1) (bytes := 1) (i := 3) rfl rfl rfl rfl (Reads.row (i := 0) rfl) rfl (fun e => nomatch e) rfl rfl rfl rfl (by constructor <;> first | omega | (unfold maxLen; omega)) rfl rfl (fun A7 cA7 => ?_))
    refine ExL.pures 1 rfl ?_
    refine ExL.nil ?_
    refine Ex.region (ExL.pures 1 rfl ?_)
    refine ExL.free (by first | exact fr_sub64 rfl rfl rfl (by omega) | exact fr_sub rfl rfl rfl) rfl rfl rfl ?_
    refine ExL.pures 1 rfl ?_
    refine ExL.nil ?_
    refine Hand.mk (⟨q.l ++ [([10, 10, 10, 60, 24, 2, 3, 12, 100].getD x5.1 0)], q.k - 1, x5.2.1, x5.2.2, A7, cA7⟩ : StS) 4 [1, 3] ⟨(by rw [List.length_append]; rfl), rfl, trivial⟩ ⟨rfl, rfl, trivial⟩ (by rw [List.length_append, List.flatMap_append]; rfl) rfl (⟨hP.next (by omega), by dsimp only; rw [List.length_append, List.length_singleton]; omega, by dsimp only; rw [List.length_append, List.length_singleton]; omega, by dsimp only; omega, by dsimp only; omega, by dsimp only; rw [List.length_append, List.length_singleton]; push_cast; omega⟩) (by dsimp only; omega)
  · refine ExL.nil ?_
    refine Ex.cond_f rfl ?_
    refine Ex.exit ?_
    refine Ex.regSeq (ExL.pures 2 rfl ?_)
    refine ExL.nil ?_
    refine Ex.ret ?_
    refine MutQ.mk ((q.at_, q.sd), (q.A, q.c), q.l) rfl (.tmp rfl .nil) (rfl) 2 [0, 1] (rfl) rfl (⟨⟨hP, by dsimp only; omega, by dsimp only; omega⟩, by dsimp only; omega, by dsimp only; omega⟩)
end Go.Proofs.Ythocfcgiikobkaa

/- What these functions of the program hand back, each proved by walking its operations. -/
set_option linter.unusedVariables false
set_option linter.unusedSimpArgs false
set_option maxRecDepth 4000
namespace Go.Proofs.Ythocfcgiikobkaa
open Go Go.Sx Go.RowKit Go.W Go.Proofs
attribute [local irreducible] Ex ExL ExD Op1 Free RetQ MutQ Reads CellO SegO LoadsAs
theorem e_20 : Enters Try.prog 20 := Enters.of Try.func20 rfl
theorem c_l07Drawn (code : List Int) (Ac : Option Addr) (cc : Nat) (hcl : code.length ≤ maxLen) (hcu : Nums 255 code) (b : Nat) (at_ sd : Int) (hat : 0 ≤ at_ ∧ at_ ≤ 500000) : Mut Try.prog 20 [.pointer (some ⟨b, 0, none⟩)] [.blk b [.slice Ac code.length cc, .int .i64 at_, .int .u64 sd] 88] (fun base w0 F => RdB base w0 Ac (code.flatMap (eI .u8))) (fun x : (Int × Int) × (Option Addr × Nat) × VDev => .agg (encV x.2.1.1 x.2.1.2 x.2.2).toArray) (fun x => [.blk b [.slice Ac code.length cc, .int .i64 x.1.1, .int .u64 x.1.2] 88, .row (.slice x.2.1.1 x.2.2.stack.length x.2.1.2) 5 1 x.2.2.stack.length (x.2.2.stack.flatMap (eI .u8))]) (fun x => DrDev x.2.2 ∧ at_ ≤ x.1.1 ∧ x.1.1 ≤ at_ + 30) := by
  refine Mut.of e_20 Try.func20 rfl Try.ntmps20 rfl rfl (fun base w0 F hfr => ?_)
  have hcode := hfr
  have hm0 : maxLen = 9223372036854775807 := rfl
  refine Ex.regSeq (ExL.pures 0 rfl ?_)
  refine ExL.op rfl (op_alloc rfl rfl rfl rfl rfl (fun b1 => ?_))
  refine ExL.nil ?_
  refine Ex.regSeq (ExL.pures 1 rfl ?_)
  refine ExL.op rfl (op_mut rfl rfl rfl (c_l01Drawn code _ _ (by omega) (by assumption) _ at_ _ (by omega)) (perm_at (i := 1) rfl) (hcode) rfl rfl (fun x2 hx2 => ?_))
  obtain ⟨hSx2, hqx2⟩ := hx2
  have hux2 := hSx2.nums
  have hvx2 := hSx2.valid
  have hzx2 := hSx2.size
  have hlx2 := hSx2.2
  refine ExL.pures 1 rfl ?_
  refine ExL.op rfl (op_mut rfl rfl rfl (c_pick code _ _ (by omega) (by assumption) _ x2.1.1 _ (by omega) 20 (by omega)) (perm_at (i := 0) rfl) (hcode) rfl rfl (fun x3 hx3 => ?_))
  refine ExL.free (fr_build rfl rfl rfl rfl) rfl rfl rfl ?_
  refine ExL.op rfl (op_alloc rfl rfl rfl rfl rfl (fun b4 => ?_))
  refine ExL.op rfl (op_storeC (i := 0) rfl rfl rfl rfl rfl rfl rfl rfl rfl rfl ?_)
  refine ExL.nil ?_
  refine Ex.regSeq (ExL.pures 1 rfl ?_)
  refine ExL.free (fr_load rfl rfl rfl rfl (CellO.blk (i := 0) rfl rfl)) rfl rfl rfl ?_
  refine ExL.op rfl (op_ret rfl rfl rfl (c_l01Size _ (by assumption) _ _ (by first | assumption | omega | (unfold maxLen; omega))) (Reads.get (Reads.row (i := 2) rfl)) rfl rfl (fun x5 hx5 => ?_))
  refine ExL.pures 1 rfl ?_
  refine ExL.nil ?_
  have hr1 := fun z => Int.emod_nonneg z (show (size x2.2.2) ≠ 0 by omega)
  have hr2 := fun z => Int.emod_lt_of_pos z (show 0 < (size x2.2.2) by omega)
  refine Ex.regSeq (ExL.pures 1 rfl ?_)
  refine ExL.op rfl (op_mut rfl rfl rfl (c_pick code _ _ (by omega) (by assumption) _ x3.2.1 _ (by omega) 1073741824 (by omega)) (perm_at (i := 1) rfl) (hcode) rfl rfl (fun x6 hx6 => ?_))
  refine ExL.pures 1 rfl ?_
  refine ExL.free (by first | exact fr_remP rfl rfl rfl (by omega) | exact fr_rem rfl rfl rfl (by omega)) rfl rfl rfl ?_
  refine ExL.pures 1 rfl ?_
  refine ExL.nil ?_
  have hra := hr1 x6.1
  have hrb := hr2 x6.1
  refine Ex.regSeq (ExL.pures 1 rfl ?_)
  refine ExL.free (fr_load rfl rfl rfl rfl (CellO.blk (i := 1) rfl rfl)) rfl rfl rfl ?_
  refine ExL.pures 1 rfl ?_
  refine ExL.op rfl (op_ret rfl rfl rfl (c_l01Of x2.2.2 (by first | assumption | simp_all) _ _ _ (by omega)) (Reads.get (Reads.row (i := 2) rfl)) rfl rfl (fun x7 hx7 => ?_))
  refine ExL.pures 1 rfl ?_
  refine ExL.op rfl (op_storeC (i := 1) rfl rfl rfl rfl rfl rfl rfl rfl rfl rfl ?_)
  refine ExL.nil ?_
  refine Ex.seq ?_
  generalize hD : (dig (digs x2.2.2 (x6.1 % (size x2.2.2)))) = D
  show Ex _ _ _ (_ :: .blk _ (encV x2.2.1.1 x2.2.1.2 ⟨x2.2.2, D, (-1), false, x3.1⟩) 28 :: _) _
  refine Ex.regSeq (ExL.pures 1 rfl ?_)
  refine ExL.op rfl (op_mut rfl rfl rfl (c_pick code _ _ (by omega) (by assumption) _ x6.2.1 _ (by omega) 4 (by omega)) (perm_at (i := 0) rfl) (hcode) rfl rfl (fun x8 hx8 => ?_))
  refine ExL.nil ?_
  refine Ex.block ?_
  refine Ex.regSeq (ExL.pures 0 rfl ?_)
  refine ExL.eql rfl rfl rfl rfl rfl rfl (fun h9 => ?_) (fun h9 => ?_)
  · refine ExL.pures 1 rfl ?_
    refine ExL.nil ?_
    refine Ex.cond_t rfl ?_
    refine Ex.region (ExL.pures 2 rfl ?_)
    refine ExL.op rfl (op_mut rfl rfl rfl (c_pick code _ _ (by omega) (by assumption) _ x8.2.1 _ (by omega) 12 (by omega)) (perm_at (i := 0) rfl) (hcode) rfl rfl (fun x10 hx10 => ?_))
    refine ExL.free (by first | exact fr_add64 rfl rfl rfl (by omega) | exact fr_add rfl rfl rfl) rfl rfl rfl ?_
    refine ExL.pures 1 rfl ?_
    refine ExL.free (by first | exact fr_remP rfl rfl rfl (by omega) | exact fr_rem rfl rfl rfl (by omega)) rfl rfl rfl ?_
    refine ExL.pures 1 rfl ?_
    refine ExL.op rfl (op_storeC (i := 1) rfl rfl rfl rfl rfl rfl rfl rfl rfl rfl ?_)
    refine ExL.nil ?_
    show Ex _ _ _ (_ :: .blk _ (encV x2.2.1.1 x2.2.1.2 ⟨x2.2.2, D, (((x6.1 % (size x2.2.2)) + x10.1) % (size x2.2.2)), false, x3.1⟩) 28 :: _) _
    have hrc := hr1 (((x6.1 % (size x2.2.2)) + x10.1))
    have hrd := hr2 (((x6.1 % (size x2.2.2)) + x10.1))
    refine Ex.regSeq (ExL.pures 0 rfl ?_)
    refine ExL.free (fr_loadN rfl rfl rfl rfl rfl (SegO.whole (i := 1) rfl)) rfl rfl rfl ?_
    refine ExL.op rfl (op_storeC (i := 3) rfl rfl rfl rfl rfl rfl rfl rfl rfl rfl ?_)
    refine ExL.nil ?_
    refine Ex.ret ?_
    refine MutQ.mk ((x10.2.1, x10.2.2), (x2.2.1.1, x2.2.1.2), (⟨x2.2.2, D, (((x6.1 % (size x2.2.2)) + x10.1) % (size x2.2.2)), false, x3.1⟩ : VDev)) rfl (.cell rfl (.many rfl rfl rfl (SegO.whole (i := 3) rfl)) .nil) (rfl) 4 [0, 2] (rfl) rfl (⟨by subst hD; exact drawn_dev (by assumption) (by omega) (by first | exact .inl rfl | (right; omega)) (by first | (intro h; cases h; done) | (intro _; first | rfl | omega)) (by omega), by dsimp only; omega, by dsimp only; omega⟩)
  · refine ExL.pures 1 rfl ?_
    refine ExL.nil ?_
    refine Ex.cond_f rfl ?_
    refine Ex.regSeq (ExL.pures 0 rfl ?_)
    refine ExL.eql rfl rfl rfl rfl rfl rfl (fun h11 => ?_) (fun h11 => ?_)
    · refine ExL.pures 1 rfl ?_
      refine ExL.nil ?_
      refine Ex.cond_t rfl ?_
      refine Ex.region (ExL.pures 1 rfl ?_)
      refine ExL.op rfl (op_mut rfl rfl rfl (c_pick code _ _ (by omega) (by assumption) _ x8.2.1 _ (by omega) 1073741824 (by omega)) (perm_at (i := 0) rfl) (hcode) rfl rfl (fun x12 hx12 => ?_))
      refine ExL.pures 1 rfl ?_
      refine ExL.free (by first | exact fr_remP rfl rfl rfl (by omega) | exact fr_rem rfl rfl rfl (by omega)) rfl rfl rfl ?_
      refine ExL.pures 1 rfl ?_
      refine ExL.op rfl (op_storeC (i := 1) rfl rfl rfl rfl rfl rfl rfl rfl rfl rfl ?_)
      refine ExL.nil ?_
      show Ex _ _ _ (_ :: .blk _ (encV x2.2.1.1 x2.2.1.2 ⟨x2.2.2, D, (x12.1 % (size x2.2.2)), false, x3.1⟩) 28 :: _) _
      have hrc := hr1 (x12.1)
      have hrd := hr2 (x12.1)
      refine Ex.regSeq (ExL.pures 0 rfl ?_)
      refine ExL.free (fr_loadN rfl rfl rfl rfl rfl (SegO.whole (i := 1) rfl)) rfl rfl rfl ?_
      refine ExL.op rfl (op_storeC (i := 3) rfl rfl rfl rfl rfl rfl rfl rfl rfl rfl ?_)
      refine ExL.nil ?_
      refine Ex.ret ?_
      refine MutQ.mk ((x12.2.1, x12.2.2), (x2.2.1.1, x2.2.1.2), (⟨x2.2.2, D, (x12.1 % (size x2.2.2)), false, x3.1⟩ : VDev)) rfl (.cell rfl (.many rfl rfl rfl (SegO.whole (i := 3) rfl)) .nil) (rfl) 4 [0, 2] (rfl) rfl (⟨by subst hD; exact drawn_dev (by assumption) (by omega) (by first | exact .inl rfl | (right; omega)) (by first | (intro h; cases h; done) | (intro _; first | rfl | omega)) (by omega), by dsimp only; omega, by dsimp only; omega⟩)
    · refine ExL.pures 1 rfl ?_
      refine ExL.nil ?_
      refine Ex.cond_f rfl ?_
      refine Ex.regSeq (ExL.pures 0 rfl ?_)
      refine ExL.eql rfl rfl rfl rfl rfl rfl (fun h13 => ?_) (fun h13 => ?_)
      · refine ExL.pures 1 rfl ?_
        refine ExL.nil ?_
        refine Ex.cond_t rfl ?_
        refine Ex.regSeq (ExL.pures 2 rfl ?_)
        refine ExL.op rfl (op_storeC (i := 1) rfl rfl rfl rfl rfl rfl rfl rfl rfl rfl ?_)
        refine ExL.nil ?_
        refine Ex.region (ExL.pures 1 rfl ?_)
        refine ExL.op rfl (op_mut rfl rfl rfl (c_one code _ _ (by omega) (by assumption) _ x8.2.1 _ (by omega) 2 (by omega)) (perm_at (i := 0) rfl) (hcode) rfl rfl (fun x14 hx14 => ?_))
        refine ExL.pures 1 rfl ?_
        refine ExL.op rfl (op_storeC (i := 1) rfl rfl rfl rfl rfl rfl rfl rfl rfl rfl ?_)
        refine ExL.nil ?_
        show Ex _ _ _ (_ :: .blk _ (encV x2.2.1.1 x2.2.1.2 ⟨x2.2.2, D, (x6.1 % (size x2.2.2)), x14.1, x3.1⟩) 28 :: _) _
        have hrc := hr1 (x6.1)
        have hrd := hr2 (x6.1)
        refine Ex.regSeq (ExL.pures 0 rfl ?_)
        refine ExL.free (fr_loadN rfl rfl rfl rfl rfl (SegO.whole (i := 1) rfl)) rfl rfl rfl ?_
        refine ExL.op rfl (op_storeC (i := 3) rfl rfl rfl rfl rfl rfl rfl rfl rfl rfl ?_)
        refine ExL.nil ?_
        refine Ex.ret ?_
        refine MutQ.mk ((x14.2.1, x14.2.2), (x2.2.1.1, x2.2.1.2), (⟨x2.2.2, D, (x6.1 % (size x2.2.2)), x14.1, x3.1⟩ : VDev)) rfl (.cell rfl (.many rfl rfl rfl (SegO.whole (i := 3) rfl)) .nil) (rfl) 4 [0, 2] (rfl) rfl (⟨by subst hD; exact drawn_dev (by assumption) (by omega) (by first | exact .inl rfl | (right; omega)) (by first | (intro h; cases h; done) | (intro _; first | rfl | omega)) (by omega), by dsimp only; omega, by dsimp only; omega⟩)
      · refine ExL.pures 1 rfl ?_
        refine ExL.nil ?_
        refine Ex.cond_f rfl ?_
        refine Ex.skip ?_
        show Ex _ _ _ (_ :: .blk _ (encV x2.2.1.1 x2.2.1.2 ⟨x2.2.2, D, (-1), false, x3.1⟩) 28 :: _) _
        refine Ex.regSeq (ExL.pures 0 rfl ?_)
        refine ExL.free (fr_loadN rfl rfl rfl rfl rfl (SegO.whole (i := 1) rfl)) rfl rfl rfl ?_
        refine ExL.op rfl (op_storeC (i := 3) rfl rfl rfl rfl rfl rfl rfl rfl rfl rfl ?_)
        refine ExL.nil ?_
        refine Ex.ret ?_
        refine MutQ.mk ((x8.2.1, x8.2.2), (x2.2.1.1, x2.2.1.2), (⟨x2.2.2, D, (-1), false, x3.1⟩ : VDev)) rfl (.cell rfl (.many rfl rfl rfl (SegO.whole (i := 3) rfl)) .nil) (rfl) 4 [0, 2] (rfl) rfl (⟨by subst hD; exact drawn_dev (by assumption) (by omega) (by first | exact .inl rfl | (right; omega)) (by first | (intro h; cases h; done) | (intro _; first | rfl | omega)) (by omega), by dsimp only; omega, by dsimp only; omega⟩)
end Go.Proofs.Ythocfcgiikobkaa

/- What these functions of the program hand back, each proved by walking its operations. -/
set_option linter.unusedVariables false
set_option linter.unusedSimpArgs false
set_option maxRecDepth 4000
namespace Go.Proofs.Ythocfcgiikobkaa
open Go Go.Sx Go.RowKit Go.W Go.Proofs
attribute [local irreducible] Ex ExL ExD Op1 Free RetQ MutQ Reads CellO SegO LoadsAs
theorem e_5 : Enters Try.prog 5 := Enters.of Try.func5 rfl
theorem c_P6Device (code : List Int) (Ac : Option Addr) (cc : Nat) (hcl : code.length ≤ maxLen) (hcu : Nums 255 code) : Ret Try.prog 5 [.slice Ac code.length cc] (fun w => Rd w Ac (code.flatMap (eI .u8))) (fun x : (Option Addr × Nat) × VDev => .agg (encV x.1.1 x.1.2 x.2).toArray) (fun x => [.row (.slice x.1.1 x.2.stack.length x.1.2) 5 1 x.2.stack.length (x.2.stack.flatMap (eI .u8))]) (fun x => DrDev x.2) := by
  refine Ret.of e_5 Try.func5 rfl Try.ntmps5 rfl rfl (fun w hpre => ?_)
  have hcode := hpre.base
  have hm0 : maxLen = 9223372036854775807 := rfl
  refine Ex.regSeq (ExL.pures 0 rfl ?_)
  refine ExL.op rfl (op_alloc rfl rfl rfl rfl rfl (fun b1 => ?_))
  refine ExL.nil ?_
  refine Ex.regSeq (ExL.pures 1 rfl ?_)
  refine ExL.op rfl (op_ret rfl rfl rfl (c_l00From code _ _) (fun _ _ => trivial) rfl rfl (fun x2 hx2 => ?_))
  refine ExL.op rfl (op_mut rfl rfl rfl (c_l07Drawn code _ _ (by omega) (by assumption) _ 0 _ (by omega)) (perm_at (i := 0) rfl) (hcode) rfl rfl (fun x3 hx3 => ?_))
  refine ExL.op rfl (op_storeC (i := 2) rfl rfl rfl rfl rfl rfl rfl rfl rfl rfl ?_)
  refine ExL.nil ?_
  refine Ex.ret ?_
  refine RetQ.mk ((x3.2.1.1, x3.2.1.2), x3.2.2) rfl (.cell rfl (.many rfl rfl rfl (SegO.whole (i := 2) rfl)) .nil) (rfl) [1] (rfl) rfl ((by assumption : DrDev _ ∧ _).1)
theorem e_12 : Enters Try.prog 12 := Enters.of Try.func12 rfl
theorem c_P6Pick (code : List Int) (Ac : Option Addr) (cc : Nat) (hcl : code.length ≤ maxLen) (hcu : Nums 255 code) (n : Int) (hn : n ≤ 9223372036854775807) : Ret Try.prog 12 [.slice Ac code.length cc, .int .i64 n] (fun w => Rd w Ac (code.flatMap (eI .u8))) (fun x : Int => .int .i64 x) (fun x => []) (fun x => 0 ≤ x ∧ (x < n ∨ x = 0) ∧ x ≤ 65535) := by
  refine Ret.of e_12 Try.func12 rfl Try.ntmps12 rfl rfl (fun w hpre => ?_)
  have hcode := hpre.base
  have hm0 : maxLen = 9223372036854775807 := rfl
  refine Ex.regSeq (ExL.pures 1 rfl ?_)
  refine ExL.nil ?_
  refine Ex.regSeq (ExL.pures 1 rfl ?_)
  refine ExL.op rfl (op_ret rfl rfl rfl (c_l00From code _ _) (fun _ _ => trivial) rfl rfl (fun x1 hx1 => ?_))
  refine ExL.pures 1 rfl ?_
  refine ExL.op rfl (op_mut rfl rfl rfl (c_pick code _ _ (by omega) (by assumption) _ 0 _ (by omega) n (by omega)) (perm_at (i := 0) rfl) (hcode) rfl rfl (fun x2 hx2 => ?_))
  refine ExL.pures 1 rfl ?_
  refine ExL.nil ?_
  refine Ex.ret ?_
  refine RetQ.mk _ rfl (.tmp rfl .nil) (rfl) [] (rfl) rfl (by refine ⟨?_, ?_, ?_⟩ <;> omega)
theorem e_6 : Enters Try.prog 6 := Enters.of Try.func6 rfl
theorem c_P6Acts (code : List Int) (Ac : Option Addr) (cc : Nat) (hcl : code.length ≤ maxLen) (hcu : Nums 255 code) (d : VDev) (hD : DrDev d) (Ad : Option Addr) (cd : Nat) : Ret Try.prog 6 [.slice Ac code.length cc, .agg (encV Ad cd d).toArray] (fun w => Rd w Ac (code.flatMap (eI .u8)) ∧ Rd w Ad (d.stack.flatMap (eI .u8))) (fun x : (Option Addr × Nat) × List VAct => .slice x.1.1 x.2.length x.1.2) (fun x => [.row (.slice x.1.1 x.2.length x.1.2) 42 2 x.2.length (x.2.flatMap encA)]) (fun x => DrActs d.stack x.2) := by
  refine Ret.of e_6 Try.func6 rfl Try.ntmps6 rfl rfl (fun w hpre => ?_)
  have hcode := hpre.1.base
  have hd := hpre.2.base
  have hN := hD.len
  have hS := hN.2.2.1
  have hu := hN.2.2.2.1
  have hm0 : maxLen = 9223372036854775807 := rfl
  refine Ex.regSeq (ExL.pures 0 rfl ?_)
  refine ExL.op rfl (op_box rfl rfl rfl rfl rfl (fun b1 => ?_))
  refine ExL.pures 1 rfl ?_
  refine ExL.nil ?_
  refine Ex.regSeq (ExL.pures 1 rfl ?_)
  refine ExL.op rfl (op_ret rfl rfl rfl (c_l00From code _ _) (fun _ _ => trivial) rfl rfl (fun x2 hx2 => ?_))
  refine ExL.pures 1 rfl ?_
  refine ExL.nil ?_
  refine Ex.regSeq (ExL.pures 0 rfl ?_)
  refine ExL.op rfl (op_buildSlice (sz := 2) rfl rfl rfl rfl rfl rfl rfl rfl (by decide) rfl rfl rfl (fun r3 => ?_))
  refine ExL.pures 1 rfl ?_
  refine ExL.nil ?_
  refine Ex.seq ?_
  refine Ex.regSeq (ExL.pures 1 rfl ?_)
  refine ExL.op rfl (op_mut rfl rfl rfl (c_pick code _ _ (by omega) (by assumption) _ 0 _ (by omega) 10 (by omega)) (perm_at (i := 1) rfl) (hcode) rfl rfl (fun x4 hx4 => ?_))
  refine ExL.pures 1 rfl ?_
  refine ExL.nil ?_
  refine Ex.block ?_
  refine Ex.loopK (X := AcS) (fun q => [(6, .slice q.A q.l.length q.c), (7, .int .i64 q.k)]) (fun q => [.blk x2 [.slice Ac code.length cc, .int .i64 q.at_, .int .u64 q.sd] 88, .row (.slice q.A q.l.length q.c) 42 2 q.l.length (q.l.flatMap encA)]) (fun q => ActP d.stack q.l ∧ (q.l.length : Int) + q.k ≤ 9 ∧ 0 ≤ q.k ∧ 0 ≤ q.at_ ∧ q.at_ ≤ 2 + 10 * q.l.length) (fun q => q.k.toNat) (⟨[], x4.1, x4.2.1, x4.2.2, (some ⟨r3, 0, none⟩), 0⟩ : AcS) [(3, _), (4, _), (5, _)] [_] 3 [0, 1, 2] ⟨rfl, rfl, trivial⟩ ⟨rfl, rfl, rfl, trivial⟩ (rfl) rfl ⟨ActP.nil, by dsimp only [List.length_nil]; omega, by dsimp only; omega, by dsimp only; omega, by dsimp only [List.length_nil]; omega⟩ (fun q hI => ?_)
  have hI : ActP d.stack q.l ∧ (q.l.length : Int) + q.k ≤ 9 ∧ 0 ≤ q.k ∧ 0 ≤ q.at_ ∧ q.at_ ≤ 2 + 10 * q.l.length := hI
  obtain ⟨hP, hlk, hk0, hat1, hat2⟩ := hI
  refine Ex.seq ?_
  refine Ex.regSeq (ExL.pures 1 rfl ?_)
  refine ExL.gtr rfl rfl rfl rfl rfl rfl (fun h5 => ?_) (fun h5 => ?_)
  · refine ExL.nil ?_
    refine Ex.cond_t rfl ?_
    refine Ex.skip ?_
    refine Ex.seq ?_
    refine Ex.block ?_
    refine Ex.regSeq (ExL.pures 1 rfl ?_)
    refine ExL.op rfl (op_buildSlice (sz := 1) rfl rfl rfl rfl rfl rfl rfl rfl (by decide) rfl rfl rfl (fun r6 => ?_))
    refine ExL.op rfl (op_mut rfl rfl rfl (c_among code _ _ (by omega) (by assumption) _ q.at_ _ (by omega) [1, 1, 1, 2, 3, 4, 5, 5] _ _ (by decide)) (perm_gt (i := 1) (j := 0) rfl rfl rfl) (hcode) rfl rfl (fun x7 hx7 => ?_))
    have hmx7 := getD_mem (s := [1, 1, 1, 2, 3, 4, 5, 5]) 0 hx7.1
    simp only [List.mem_cons, List.not_mem_nil, or_false] at hmx7
    refine ExL.free (by first | exact fr_conv_i8 rfl rfl rfl rfl (by omega) | exact fr_conv rfl rfl rfl rfl) rfl rfl rfl ?_
    refine ExL.free (fr_build rfl rfl rfl rfl) rfl rfl rfl ?_
    refine ExL.op rfl (op_alloc rfl rfl rfl rfl rfl (fun b8 => ?_))
    refine ExL.op rfl (op_storeC (i := 0) rfl rfl rfl rfl rfl rfl rfl rfl rfl rfl ?_)
    refine ExL.nil ?_
    refine Ex.seq ?_
    refine Ex.regSeq (ExL.pures 1 rfl ?_)
    refine ExL.free (fr_load rfl rfl rfl rfl (CellO.blk (i := 0) rfl rfl)) rfl rfl rfl ?_
    refine ExL.nil ?_
    refine Ex.block ?_
    refine Ex.seq ?_
    refine Ex.regSeq (ExL.pures 0 rfl ?_)
    refine ExL.eql rfl rfl rfl rfl rfl rfl (fun h9 => ?_) (fun h9 => ?_)
    · refine ExL.pures 1 rfl ?_
      refine ExL.nil ?_
      refine Ex.cond_t rfl ?_
      refine Ex.skip ?_
      refine Ex.cond_t rfl ?_
      refine Ex.region (ExL.pures 1 rfl ?_)
      refine ExL.op rfl (op_mut rfl rfl rfl (c_pick code _ _ (by omega) (by assumption) _ x7.2.1 _ (by omega) 20 (by omega)) (perm_at (i := 1) rfl) (hcode) rfl rfl (fun x10 hx10 => ?_))
      refine ExL.pures 1 rfl ?_
      refine ExL.op rfl (op_storeC (i := 1) rfl rfl rfl rfl rfl rfl rfl rfl rfl rfl ?_)
      refine ExL.nil ?_
      refine Ex.region (ExL.pures 1 rfl ?_)
      refine ExL.free (fr_loadN rfl rfl rfl rfl rfl (SegO.whole (i := 1) rfl)) rfl rfl rfl ?_
      refine ExL.op rfl (op_buildSlice (sz := 2) rfl rfl rfl rfl rfl rfl rfl rfl (by decide) rfl rfl rfl (fun r11 => ?_))
      refine ExL.op rfl (op_append (sz := 2) (bytes := 16) (i := 4) rfl rfl rfl rfl (Reads.row (i := 0) rfl) rfl (fun e => nomatch e) rfl rfl rfl rfl (by constructor <;> first | omega | (unfold maxLen; omega)) rfl rfl (fun A12 cA12 => ?_))
      refine ExL.pures 1 rfl ?_
      refine ExL.nil ?_
      refine Ex.region (ExL.pures 1 rfl ?_)
      refine ExL.free (by first | exact fr_sub64 rfl rfl rfl (by omega) | exact fr_sub rfl rfl rfl) rfl rfl rfl ?_
      refine ExL.pures 1 rfl ?_
      refine ExL.nil ?_
      refine Hand.mk (⟨q.l ++ [⟨([1, 1, 1, 2, 3, 4, 5, 5].getD x7.1 0), x10.1⟩], q.k - 1, x10.2.1, x10.2.2, A12, cA12⟩ : AcS) 6 [1, 4, 5] ⟨(by rw [List.length_append]; rfl), rfl, trivial⟩ ⟨rfl, rfl, rfl, trivial⟩ (by rw [List.length_append, List.flatMap_append]; rfl) rfl (⟨hP.next (by unfold OkJ; dsimp only; omega), by dsimp only; rw [List.length_append, List.length_singleton]; omega, by dsimp only; omega, by dsimp only; omega, by dsimp only; rw [List.length_append, List.length_singleton]; push_cast; omega⟩) (by dsimp only; omega)
    · refine ExL.pures 1 rfl ?_
      refine ExL.nil ?_
      refine Ex.cond_f rfl ?_
      refine Ex.region (ExL.pures 0 rfl ?_)
      refine ExL.eql rfl rfl rfl rfl rfl rfl (fun h14 => ?_) (fun h14 => ?_)
      · refine ExL.pures 1 rfl ?_
        refine ExL.nil ?_
        refine Ex.cond_t rfl ?_
        refine Ex.region (ExL.pures 1 rfl ?_)
        refine ExL.op rfl (op_mut rfl rfl rfl (c_pick code _ _ (by omega) (by assumption) _ x7.2.1 _ (by omega) 20 (by omega)) (perm_at (i := 1) rfl) (hcode) rfl rfl (fun x15 hx15 => ?_))
        refine ExL.pures 1 rfl ?_
        refine ExL.op rfl (op_storeC (i := 1) rfl rfl rfl rfl rfl rfl rfl rfl rfl rfl ?_)
        refine ExL.nil ?_
        refine Ex.region (ExL.pures 1 rfl ?_)
        refine ExL.free (fr_loadN rfl rfl rfl rfl rfl (SegO.whole (i := 1) rfl)) rfl rfl rfl ?_
        refine ExL.op rfl (op_buildSlice (sz := 2) rfl rfl rfl rfl rfl rfl rfl rfl (by decide) rfl rfl rfl (fun r16 => ?_))
        refine ExL.op rfl (op_append (sz := 2) (bytes := 16) (i := 4) rfl rfl rfl rfl (Reads.row (i := 0) rfl) rfl (fun e => nomatch e) rfl rfl rfl rfl (by constructor <;> first | omega | (unfold maxLen; omega)) rfl rfl (fun A17 cA17 => ?_))
        refine ExL.pures 1 rfl ?_
        refine ExL.nil ?_
        refine Ex.region (ExL.pures 1 rfl ?_)
        refine ExL.free (by first | exact fr_sub64 rfl rfl rfl (by omega) | exact fr_sub rfl rfl rfl) rfl rfl rfl ?_
        refine ExL.pures 1 rfl ?_
        refine ExL.nil ?_
        refine Hand.mk (⟨q.l ++ [⟨([1, 1, 1, 2, 3, 4, 5, 5].getD x7.1 0), x15.1⟩], q.k - 1, x15.2.1, x15.2.2, A17, cA17⟩ : AcS) 6 [1, 4, 5] ⟨(by rw [List.length_append]; rfl), rfl, trivial⟩ ⟨rfl, rfl, rfl, trivial⟩ (by rw [List.length_append, List.flatMap_append]; rfl) rfl (⟨hP.next (by unfold OkJ; dsimp only; omega), by dsimp only; rw [List.length_append, List.length_singleton]; omega, by dsimp only; omega, by dsimp only; omega, by dsimp only; rw [List.length_append, List.length_singleton]; push_cast; omega⟩) (by dsimp only; omega)
      · refine ExL.pures 1 rfl ?_
        refine ExL.nil ?_
        refine Ex.cond_f rfl ?_
        refine Ex.regSeq (ExL.pures 0 rfl ?_)
        refine ExL.eql rfl rfl rfl rfl rfl rfl (fun h19 => ?_) (fun h19 => ?_)
        · refine ExL.pures 1 rfl ?_
          refine ExL.nil ?_
          refine Ex.cond_t rfl ?_
          refine Ex.drawI [0, 2, 3, 4] rfl rfl ?_
          refine ExD.take (i := 0) rfl (by kernel_rfl) (pureVal_ok rfl) ((List.Sublist.cons_cons _ (List.Sublist.cons _ (List.Sublist.refl _)))) rfl rfl rfl ?_
          refine ExD.take (i := 3) rfl (by kernel_rfl) (pureVal_ok rfl) ((List.Sublist.cons_cons _ (List.Sublist.cons _ (List.Sublist.refl _)))) rfl rfl rfl ?_
          refine ExD.take (i := 4) rfl (by kernel_rfl) (fr_load rfl rfl rfl rfl (CellO.blk (i := 3) rfl rfl)) ((List.Sublist.cons_cons _ (List.Sublist.cons _ (List.Sublist.refl _)))) rfl rfl rfl ?_
          refine ExD.op (i := 1) rfl (by kernel_rfl) rfl (op_mut rfl rfl rfl (c_pick code _ _ (by omega) (by assumption) _ x7.2.1 _ (by omega) 30 (by omega)) (perm_at (i := 1) rfl) (hcode) rfl rfl (fun x20 hx20 => ⟨(List.Sublist.cons _ (List.Sublist.refl _)), ?_⟩))
          refine ExD.take (i := 2) rfl (by kernel_rfl) (by first | exact fr_sub64 rfl rfl rfl (by omega) | exact fr_sub rfl rfl rfl) ((List.Sublist.cons _ (List.Sublist.refl _))) rfl rfl rfl ?_
          refine ExD.op (i := 5) rfl (by kernel_rfl) rfl (op_ret rfl rfl rfl (c_l01Size _ (by assumption) _ _ (by first | assumption | omega | (unfold maxLen; omega))) (Reads.get (Reads.old hd)) rfl rfl (fun x21 hx21 => ⟨(List.Sublist.cons _ (List.Sublist.refl _)), ?_⟩))
          refine ExD.take (i := 6) rfl (by kernel_rfl) (by first | exact fr_sub64 rfl rfl rfl (by omega) | exact fr_sub rfl rfl rfl) ((List.Sublist.cons _ (List.Sublist.refl _))) rfl rfl rfl ?_
          refine ExD.op (i := 7) rfl (by kernel_rfl) rfl (op_ret rfl rfl rfl (c_l00Min _ _) (fun _ _ => trivial) rfl rfl (fun x22 hx22 => ⟨(List.Sublist.cons _ (List.Sublist.refl _)), ?_⟩))
          refine ExD.take (i := 8) rfl (by kernel_rfl) (pureVal_ok rfl) ((List.Sublist.cons _ (List.Sublist.refl _))) rfl rfl rfl ?_
          refine ExD.last (i := 9) rfl (by kernel_rfl) (by kernel_rfl) rfl (op_storeC (i := 1) rfl rfl rfl rfl rfl rfl rfl rfl rfl rfl ?_)
          refine ExD.done (by kernel_rfl) ?_
          refine Ex.region (ExL.pures 1 rfl ?_)
          refine ExL.free (fr_loadN rfl rfl rfl rfl rfl (SegO.whole (i := 1) rfl)) rfl rfl rfl ?_
          refine ExL.op rfl (op_buildSlice (sz := 2) rfl rfl rfl rfl rfl rfl rfl rfl (by decide) rfl rfl rfl (fun r23 => ?_))
          refine ExL.op rfl (op_append (sz := 2) (bytes := 16) (i := 4) rfl rfl rfl rfl (Reads.row (i := 0) rfl) rfl (fun e => nomatch e) rfl rfl rfl rfl (by constructor <;> first | omega | (unfold maxLen; omega)) rfl rfl (fun A24 cA24 => ?_))
          refine ExL.pures 1 rfl ?_
          refine ExL.nil ?_
          refine Ex.region (ExL.pures 1 rfl ?_)
          refine ExL.free (by first | exact fr_sub64 rfl rfl rfl (by omega) | exact fr_sub rfl rfl rfl) rfl rfl rfl ?_
          refine ExL.pures 1 rfl ?_
          refine ExL.nil ?_
          refine Hand.mk (⟨q.l ++ [⟨([1, 1, 1, 2, 3, 4, 5, 5].getD x7.1 0), (min (x20.1 - 1) ((size d.stack) - 1))⟩], q.k - 1, x20.2.1, x20.2.2, A24, cA24⟩ : AcS) 6 [1, 4, 5] ⟨(by rw [List.length_append]; rfl), rfl, trivial⟩ ⟨rfl, rfl, rfl, trivial⟩ (by rw [List.length_append, List.flatMap_append]; rfl) rfl (⟨hP.next (by unfold OkJ; dsimp only; omega), by dsimp only; rw [List.length_append, List.length_singleton]; omega, by dsimp only; omega, by dsimp only; omega, by dsimp only; rw [List.length_append, List.length_singleton]; push_cast; omega⟩) (by dsimp only; omega)
        · refine ExL.pures 1 rfl ?_
          refine ExL.nil ?_
          refine Ex.cond_f rfl ?_
          refine Ex.skip ?_
          refine Ex.region (ExL.pures 1 rfl ?_)
          refine ExL.free (fr_loadN rfl rfl rfl rfl rfl (SegO.whole (i := 0) rfl)) rfl rfl rfl ?_
          refine ExL.op rfl (op_buildSlice (sz := 2) rfl rfl rfl rfl rfl rfl rfl rfl (by decide) rfl rfl rfl (fun r26 => ?_))
          refine ExL.op rfl (op_append (sz := 2) (bytes := 16) (i := 4) rfl rfl rfl rfl (Reads.row (i := 0) rfl) rfl (fun e => nomatch e) rfl rfl rfl rfl (by constructor <;> first | omega | (unfold maxLen; omega)) rfl rfl (fun A27 cA27 => ?_))
          refine ExL.pures 1 rfl ?_
          refine ExL.nil ?_
          refine Ex.region (ExL.pures 1 rfl ?_)
          refine ExL.free (by first | exact fr_sub64 rfl rfl rfl (by omega) | exact fr_sub rfl rfl rfl) rfl rfl rfl ?_
          refine ExL.pures 1 rfl ?_
          refine ExL.nil ?_
          refine Hand.mk (⟨q.l ++ [⟨([1, 1, 1, 2, 3, 4, 5, 5].getD x7.1 0), 0⟩], q.k - 1, x7.2.1, x7.2.2, A27, cA27⟩ : AcS) 6 [2, 4, 5] ⟨(by rw [List.length_append]; rfl), rfl, trivial⟩ ⟨rfl, rfl, rfl, trivial⟩ (by rw [List.length_append, List.flatMap_append]; rfl) rfl (⟨hP.next (by unfold OkJ; dsimp only; omega), by dsimp only; rw [List.length_append, List.length_singleton]; omega, by dsimp only; omega, by dsimp only; omega, by dsimp only; rw [List.length_append, List.length_singleton]; push_cast; omega⟩) (by dsimp only; omega)
  · refine ExL.nil ?_
    refine Ex.cond_f rfl ?_
    refine Ex.exit ?_
    refine Ex.regSeq (ExL.pures 2 rfl ?_)
    refine ExL.nil ?_
    refine Ex.ret ?_
    refine RetQ.mk ((q.A, q.c), q.l) rfl (.tmp rfl .nil) (rfl) [1] (rfl) rfl (⟨by dsimp only; omega, hP⟩)
end Go.Proofs.Ythocfcgiikobkaa

/- What these functions of the program hand back, each proved by walking its operations. -/
set_option linter.unusedVariables false
set_option linter.unusedSimpArgs false
set_option maxRecDepth 4000
namespace Go.Proofs.Ythocfcgiikobkaa
open Go Go.Sx Go.RowKit Go.W Go.Proofs
attribute [local irreducible] Ex ExL ExD Op1 Free RetQ MutQ Reads CellO SegO LoadsAs
theorem e_11 : Enters Try.prog 11 := Enters.of Try.func11 rfl
theorem c_SameNotes (s : List VNote) (As : Option Addr) (cs : Nat) (hls : s.length ≤ maxLen) (At : Option Addr) (ct : Nat) : Ret Try.prog 11 [.slice As s.length cs, .slice At s.length ct] (fun w => Rd w As (s.flatMap encN) ∧ Rd w At (s.flatMap encN)) (fun x : Unit => .bool true) (fun x => []) (fun x => True) := by
  refine Ret.of e_11 Try.func11 rfl Try.ntmps11 rfl rfl (fun w hpre => ?_)
  have hs := hpre.1.base
  have ht := hpre.2.base
  have hm0 : maxLen = 9223372036854775807 := rfl
  refine Ex.regSeq (ExL.pures 1 rfl ?_)
  refine ExL.nil ?_
  refine Ex.seq ?_
  refine Ex.regSeq (ExL.pures 4 rfl ?_)
  refine ExL.free (fr_neq_f rfl rfl rfl (fun h => h rfl)) rfl rfl rfl ?_
  refine ExL.nil ?_
  refine Ex.cond_f rfl ?_
  refine Ex.skip ?_
  refine Ex.seq ?_
  refine Ex.regSeq (ExL.pures 1 rfl ?_)
  refine ExL.nil ?_
  refine Ex.block ?_
  refine Ex.loopK (X := Nat) (fun k => [(5, .int .i64 k)]) (fun k => []) (fun k => k ≤ s.length) (fun k => s.length - k) 0 [(0, _), (1, _)] [] 0 [] ⟨rfl, trivial⟩ ⟨rfl, rfl, trivial⟩ (rfl) rfl (Nat.zero_le _) (fun k hI => ?_)
  have hI : k ≤ s.length := hI
  refine Ex.seq ?_
  refine Ex.regSeq (ExL.pures 3 rfl ?_)
  refine ExL.lss rfl rfl rfl rfl rfl rfl (fun h1 => ?_) (fun h1 => ?_)
  · refine ExL.nil ?_
    refine Ex.cond_t rfl ?_
    refine Ex.skip ?_
    refine Ex.seq ?_
    refine Ex.block ?_
    refine Ex.drawSeqM rfl ?_
    refine ExD.take (i := 0) rfl (by kernel_rfl) (pureVal_ok rfl) ((List.Sublist.refl _)) rfl rfl rfl ?_
    refine ExD.take (i := 1) rfl (by kernel_rfl) (pureVal_ok rfl) ((List.Sublist.refl _)) rfl rfl rfl ?_
    refine ExD.take (i := 2) rfl (by kernel_rfl) (fr_indexAddrF (Reads.old hs) encN_len rfl rfl rfl rfl rfl rfl (by omega)) ((List.Sublist.refl _)) rfl rfl rfl ?_
    refine ExD.take (i := 3) rfl (by kernel_rfl) (fr_loadN rfl rfl rfl rfl rfl (by first | exact segN (Reads.old hs) encN_len rfl zN (by omega) | exact segF (Reads.old hs) encN_len rfl zN (by omega))) ((List.Sublist.refl _)) rfl rfl rfl ?_
    refine ExD.take (i := 4) rfl (by kernel_rfl) (pureVal_ok rfl) ((List.Sublist.refl _)) rfl rfl rfl ?_
    refine ExD.take (i := 5) rfl (by kernel_rfl) (pureVal_ok rfl) ((List.Sublist.refl _)) rfl rfl rfl ?_
    refine ExD.take (i := 6) rfl (by kernel_rfl) (fr_indexAddrF (Reads.old ht) encN_len rfl rfl rfl rfl rfl rfl (by omega)) ((List.Sublist.refl _)) rfl rfl rfl ?_
    refine ExD.take (i := 7) rfl (by kernel_rfl) (fr_loadN rfl rfl rfl rfl rfl (by first | exact segN (Reads.old ht) encN_len rfl zN (by omega) | exact segF (Reads.old ht) encN_len rfl zN (by omega))) ((List.Sublist.refl _)) rfl rfl rfl ?_
    refine ExD.take (i := 8) rfl (by kernel_rfl) (fr_neq_rec (eq_Note (s.getD k zN) (s.getD k zN)) rfl rfl rfl (by kernel_rfl)) ((List.Sublist.refl _)) rfl rfl rfl ?_
    refine ExD.done (by kernel_rfl) ?_
    refine Ex.cond rfl (fun hb2 => ?_) (fun hb2 => ?_)
    · refine Ex.regSeq (ExL.pures 1 rfl ?_)
      refine ExL.nil ?_
      refine Ex.ret ?_
      refine RetQ.mk () rfl (.tmp rfl .nil) (tB (by first | rfl | (exfalso; simp_all [sameN_refl]; done))) [] (rfl) rfl (trivial)
    · refine Ex.skip ?_
      refine Ex.region (ExL.pures 1 rfl ?_)
      refine ExL.free (by first | exact fr_add64 rfl rfl rfl (by omega) | exact fr_add rfl rfl rfl) rfl rfl rfl ?_
      refine ExL.pures 1 rfl ?_
      refine ExL.nil ?_
      refine Hand.mk (k + 1) 0 [] ⟨rfl, trivial⟩ ⟨rfl, rfl, trivial⟩ (rfl) rfl (by omega) (by omega)
  · refine ExL.nil ?_
    refine Ex.cond_f rfl ?_
    refine Ex.exit ?_
    refine Ex.regSeq (ExL.pures 1 rfl ?_)
    refine ExL.nil ?_
    refine Ex.ret ?_
    refine RetQ.mk () rfl (.tmp rfl .nil) (tB (by first | rfl | (exfalso; simp_all [sameN_refl]; done))) [] (rfl) rfl (trivial)
theorem e_18 : Enters Try.prog 18 := Enters.of Try.func18 rfl
theorem c_SameActs (s : List VAct) (As : Option Addr) (cs : Nat) (hls : s.length ≤ maxLen) (At : Option Addr) (ct : Nat) : Ret Try.prog 18 [.slice As s.length cs, .slice At s.length ct] (fun w => Rd w As (s.flatMap encA) ∧ Rd w At (s.flatMap encA)) (fun x : Unit => .bool true) (fun x => []) (fun x => True) := by
  refine Ret.of e_18 Try.func18 rfl Try.ntmps18 rfl rfl (fun w hpre => ?_)
  have hs := hpre.1.base
  have ht := hpre.2.base
  have hm0 : maxLen = 9223372036854775807 := rfl
  refine Ex.regSeq (ExL.pures 1 rfl ?_)
  refine ExL.nil ?_
  refine Ex.seq ?_
  refine Ex.regSeq (ExL.pures 4 rfl ?_)
  refine ExL.free (fr_neq_f rfl rfl rfl (fun h => h rfl)) rfl rfl rfl ?_
  refine ExL.nil ?_
  refine Ex.cond_f rfl ?_
  refine Ex.skip ?_
  refine Ex.seq ?_
  refine Ex.regSeq (ExL.pures 1 rfl ?_)
  refine ExL.nil ?_
  refine Ex.block ?_
  refine Ex.loopK (X := Nat) (fun k => [(5, .int .i64 k)]) (fun k => []) (fun k => k ≤ s.length) (fun k => s.length - k) 0 [(0, _), (1, _)] [] 0 [] ⟨rfl, trivial⟩ ⟨rfl, rfl, trivial⟩ (rfl) rfl (Nat.zero_le _) (fun k hI => ?_)
  have hI : k ≤ s.length := hI
  refine Ex.seq ?_
  refine Ex.regSeq (ExL.pures 3 rfl ?_)
  refine ExL.lss rfl rfl rfl rfl rfl rfl (fun h1 => ?_) (fun h1 => ?_)
  · refine ExL.nil ?_
    refine Ex.cond_t rfl ?_
    refine Ex.skip ?_
    refine Ex.seq ?_
    refine Ex.block ?_
    refine Ex.drawSeqM rfl ?_
    refine ExD.take (i := 0) rfl (by kernel_rfl) (pureVal_ok rfl) ((List.Sublist.refl _)) rfl rfl rfl ?_
    refine ExD.take (i := 1) rfl (by kernel_rfl) (pureVal_ok rfl) ((List.Sublist.refl _)) rfl rfl rfl ?_
    refine ExD.take (i := 2) rfl (by kernel_rfl) (fr_indexAddrF (Reads.old hs) encA_len rfl rfl rfl rfl rfl rfl (by omega)) ((List.Sublist.refl _)) rfl rfl rfl ?_
    refine ExD.take (i := 3) rfl (by kernel_rfl) (fr_loadN rfl rfl rfl rfl rfl (by first | exact segN (Reads.old hs) encA_len rfl zA (by omega) | exact segF (Reads.old hs) encA_len rfl zA (by omega))) ((List.Sublist.refl _)) rfl rfl rfl ?_
    refine ExD.take (i := 4) rfl (by kernel_rfl) (pureVal_ok rfl) ((List.Sublist.refl _)) rfl rfl rfl ?_
    refine ExD.take (i := 5) rfl (by kernel_rfl) (pureVal_ok rfl) ((List.Sublist.refl _)) rfl rfl rfl ?_
    refine ExD.take (i := 6) rfl (by kernel_rfl) (fr_indexAddrF (Reads.old ht) encA_len rfl rfl rfl rfl rfl rfl (by omega)) ((List.Sublist.refl _)) rfl rfl rfl ?_
    refine ExD.take (i := 7) rfl (by kernel_rfl) (fr_loadN rfl rfl rfl rfl rfl (by first | exact segN (Reads.old ht) encA_len rfl zA (by omega) | exact segF (Reads.old ht) encA_len rfl zA (by omega))) ((List.Sublist.refl _)) rfl rfl rfl ?_
    refine ExD.take (i := 8) rfl (by kernel_rfl) (fr_neq_rec (eq_Act 9998 (s.getD k zA) (s.getD k zA)) rfl rfl rfl (by kernel_rfl)) ((List.Sublist.refl _)) rfl rfl rfl ?_
    refine ExD.done (by kernel_rfl) ?_
    refine Ex.cond rfl (fun hb2 => ?_) (fun hb2 => ?_)
    · refine Ex.regSeq (ExL.pures 1 rfl ?_)
      refine ExL.nil ?_
      refine Ex.ret ?_
      refine RetQ.mk () rfl (.tmp rfl .nil) (tB (by first | rfl | (exfalso; simp_all [sameA_refl]; done))) [] (rfl) rfl (trivial)
    · refine Ex.skip ?_
      refine Ex.region (ExL.pures 1 rfl ?_)
      refine ExL.free (by first | exact fr_add64 rfl rfl rfl (by omega) | exact fr_add rfl rfl rfl) rfl rfl rfl ?_
      refine ExL.pures 1 rfl ?_
      refine ExL.nil ?_
      refine Hand.mk (k + 1) 0 [] ⟨rfl, trivial⟩ ⟨rfl, rfl, trivial⟩ (rfl) rfl (by omega) (by omega)
  · refine ExL.nil ?_
    refine Ex.cond_f rfl ?_
    refine Ex.exit ?_
    refine Ex.regSeq (ExL.pures 1 rfl ?_)
    refine ExL.nil ?_
    refine Ex.ret ?_
    refine RetQ.mk () rfl (.tmp rfl .nil) (tB (by first | rfl | (exfalso; simp_all [sameA_refl]; done))) [] (rfl) rfl (trivial)
theorem e_13 : Enters Try.prog 13 := Enters.of Try.func13 rfl
theorem c_SizeOf (s : List Int) (hv : validStack s = true) (hu : Nums 255 s) (As : Option Addr) (cs : Nat) : Ret Try.prog 13 [.slice As s.length cs] (fun w => Rd w As (s.flatMap (eI .u8))) (fun x : Unit => .tuple #[.int .i64 (size s), .int .i64 0]) (fun x => []) (fun x => True) := by
  refine Ret.of e_13 Try.func13 rfl Try.ntmps13 rfl rfl (fun w hpre => ?_)
  have hs := hpre.base
  have hS := stk hv
  have h8 := hS.len8
  have hm0 : maxLen = 9223372036854775807 := rfl
  refine Ex.regSeq (ExL.pures 2 rfl ?_)
  refine ExL.nil ?_
  refine Ex.seq ?_
  refine Ex.regSeq (ExL.pures 1 rfl ?_)
  refine ExL.op rfl (op_ret rfl rfl rfl (c_l01Ok _ (by assumption) _ _ (by first | assumption | omega | (unfold maxLen; omega))) (Reads.get (Reads.old hs)) rfl rfl (fun x1 hx1 => ?_))
  refine ExL.pures 1 rfl ?_
  refine ExL.nil ?_
  refine Ex.cond rfl (fun hb2 => ?_) (fun hb2 => ?_)
  · replace hb2 := nb_t hb2
    refine Ex.regSeq (ExL.pures 2 rfl ?_)
    refine ExL.nil ?_
    refine Ex.ret ?_
    refine RetQ.mk () rfl (.tmp rfl (.tmp rfl .nil)) (t2 (by first | rfl | (exfalso; simp_all; done)) (by first | rfl | (exfalso; simp_all; done))) [] (rfl) rfl (trivial)
  · replace hb2 := nb_f hb2
    refine Ex.skip ?_
    refine Ex.regSeq (ExL.pures 1 rfl ?_)
    refine ExL.op rfl (op_ret rfl rfl rfl (c_l01Size _ (by assumption) _ _ (by first | assumption | omega | (unfold maxLen; omega))) (Reads.get (Reads.old hs)) rfl rfl (fun x3 hx3 => ?_))
    refine ExL.pures 2 rfl ?_
    refine ExL.nil ?_
    refine Ex.ret ?_
    refine RetQ.mk () rfl (.tmp rfl (.tmp rfl .nil)) (t2 (by first | rfl | (exfalso; simp_all; done)) (by first | rfl | (exfalso; simp_all; done))) [] (rfl) rfl (trivial)
theorem e_19 : Enters Try.prog 19 := Enters.of Try.func19 rfl
theorem c_ValueOf (s : List Int) (hv : validStack s = true) (hu : Nums 255 s) (As : Option Addr) (cs : Nat) (a : Dig) (hd0 : validDig s a.l = true) (ha : Nums 255 a.l) : Ret Try.prog 19 [.slice As s.length cs, .agg (encD a).toArray] (fun w => Rd w As (s.flatMap (eI .u8))) (fun x : Unit => .tuple #[.int .i64 (val s a.l), .int .i64 0]) (fun x => []) (fun x => True) := by
  refine Ret.of e_19 Try.func19 rfl Try.ntmps19 rfl rfl (fun w hpre => ?_)
  have hs := hpre.base
  have hS := stk hv
  have h8 := hS.len8
  have hm0 : maxLen = 9223372036854775807 := rfl
  refine Ex.regSeq (ExL.pures 0 rfl ?_)
  refine ExL.op rfl (op_box rfl rfl rfl rfl rfl (fun b1 => ?_))
  refine ExL.pures 2 rfl ?_
  refine ExL.nil ?_
  refine Ex.seq ?_
  refine Ex.regSeq (ExL.pures 1 rfl ?_)
  refine ExL.free (fr_loadN rfl rfl rfl rfl rfl (SegO.whole (i := 0) rfl)) rfl rfl rfl ?_
  refine ExL.op rfl (op_ret rfl rfl rfl (c_iValidDigits s (by assumption) _ _ (by omega) a (by assumption)) (Reads.get (Reads.old hs)) rfl rfl (fun x2 hx2 => ?_))
  refine ExL.pures 1 rfl ?_
  refine ExL.nil ?_
  refine Ex.cond rfl (fun hb3 => ?_) (fun hb3 => ?_)
  · replace hb3 := nb_t hb3
    refine Ex.regSeq (ExL.pures 2 rfl ?_)
    refine ExL.nil ?_
    refine Ex.ret ?_
    refine RetQ.mk () rfl (.tmp rfl (.tmp rfl .nil)) (t2 (by first | rfl | (exfalso; simp_all; done)) (by first | rfl | (exfalso; simp_all; done))) [] (rfl) rfl (trivial)
  · replace hb3 := nb_f hb3
    refine Ex.skip ?_
    refine Ex.regSeq (ExL.pures 1 rfl ?_)
    refine ExL.free (fr_loadN rfl rfl rfl rfl rfl (SegO.whole (i := 0) rfl)) rfl rfl rfl ?_
    refine ExL.op rfl (op_ret rfl rfl rfl (c_value s (by first | assumption | simp_all) _ _ a (by assumption) (by first | assumption | simp_all)) (Reads.get (Reads.old hs)) rfl rfl (fun x4 hx4 => ?_))
    refine ExL.pures 2 rfl ?_
    refine ExL.nil ?_
    refine Ex.ret ?_
    refine RetQ.mk () rfl (.tmp rfl (.tmp rfl .nil)) (t2 (by first | rfl | (exfalso; simp_all; done)) (by first | rfl | (exfalso; simp_all; done))) [] (rfl) rfl (trivial)
end Go.Proofs.Ythocfcgiikobkaa

/- What these functions of the program hand back, each proved by walking its operations. -/
set_option linter.unusedVariables false
set_option linter.unusedSimpArgs false
set_option maxRecDepth 4000
namespace Go.Proofs.Ythocfcgiikobkaa
open Go Go.Sx Go.RowKit Go.W Go.Proofs
attribute [local irreducible] Ex ExL ExD Op1 Free RetQ MutQ Reads CellO SegO LoadsAs
theorem e_9 : Enters Try.prog 9 := Enters.of Try.func9 rfl
theorem c_iFirstWrong (d : VDev) (hk : OkDev d) (Ad : Option Addr) (cd : Nat) (hAd : Ad = none → cd = 0) (hdl : d.stack.length ≤ 1048576) (l : List VNote) (hok : ∀ x ∈ l, OkNote x) (Al : Option Addr) (cl : Nat) (hll : l.length ≤ maxLen) : Ret Try.prog 9 [.agg (encV Ad cd d).toArray, .slice Al l.length cl] (fun w => Rd w Ad (d.stack.flatMap (eI .u8)) ∧ Rd w Al (l.flatMap encN)) (fun x : Unit => .tuple #[.int .i64 (firstWrong d l).1, .int .i64 (firstWrong d l).2]) (fun x => []) (fun x => True) := by
  refine Ret.of e_9 Try.func9 rfl Try.ntmps9 rfl rfl (fun w hpre => ?_)
  have hd := hpre.1.base
  have hl := hpre.2.base
  have hm0 : maxLen = 9223372036854775807 := rfl
  refine Ex.regSeq (ExL.pures 0 rfl ?_)
  refine ExL.op rfl (op_box rfl rfl rfl rfl rfl (fun b1 => ?_))
  refine ExL.pures 2 rfl ?_
  refine ExL.nil ?_
  refine Ex.seq ?_
  refine Ex.block ?_
  refine Ex.regSeq (ExL.pures 0 rfl ?_)
  refine ExL.free (fr_loadN rfl rfl rfl rfl rfl (SegO.whole (i := 0) rfl)) rfl rfl rfl ?_
  refine ExL.op rfl (op_ret rfl rfl rfl (c_iValidDevice d (by assumption) _ _) (Reads.get (Reads.old hd)) rfl rfl (fun x2 hx2 => ?_))
  refine ExL.pures 2 rfl ?_
  refine ExL.nil ?_
  refine Ex.cond rfl (fun hb3 => ?_) (fun hb3 => ?_)
  · replace hb3 := nb_t hb3
    refine Ex.regSeq (ExL.pures 2 rfl ?_)
    refine ExL.nil ?_
    refine Ex.ret ?_
    refine RetQ.mk () rfl (.tmp rfl (.tmp rfl .nil)) (t2 (vI (by first | (rw [fw_bad (by assumption)]) | (rw [fw_long (by assumption) (by assumption)]) | (rw [fw_on (by assumption) (by assumption), firstB_hit (k := k) (by omega) hall (badN_t (by first | exact .inl (by assumption) | exact .inr (.inl (by assumption)) | exact .inr (.inr (nsame (by assumption))) | exact .inr (.inr (.inl (by assumption))) | exact .inr (.inr (.inr (by simp_all)))))]; rfl) | (rw [fw_on (by assumption) (by assumption), firstB_none (k := k) (by omega) hall]; rfl))) (vI (by first | (rw [fw_bad (by assumption)]) | (rw [fw_long (by assumption) (by assumption)]) | (rw [fw_on (by assumption) (by assumption), firstB_hit (k := k) (by omega) hall (badN_t (by first | exact .inl (by assumption) | exact .inr (.inl (by assumption)) | exact .inr (.inr (nsame (by assumption))) | exact .inr (.inr (.inl (by assumption))) | exact .inr (.inr (.inr (by simp_all)))))]; rfl) | (rw [fw_on (by assumption) (by assumption), firstB_none (k := k) (by omega) hall]; rfl)))) [] (rfl) rfl (trivial)
  · replace hb3 := nb_f hb3
    refine Ex.regSeq (ExL.pures 2 rfl ?_)
    refine ExL.gtr rfl rfl rfl rfl rfl rfl (fun h4 => ?_) (fun h4 => ?_)
    · refine ExL.pures 1 rfl ?_
      refine ExL.nil ?_
      refine Ex.cond_t rfl ?_
      refine Ex.regSeq (ExL.pures 2 rfl ?_)
      refine ExL.nil ?_
      refine Ex.ret ?_
      refine RetQ.mk () rfl (.tmp rfl (.tmp rfl .nil)) (t2 (vI (by first | (rw [fw_bad (by assumption)]) | (rw [fw_long (by assumption) (by assumption)]) | (rw [fw_on (by assumption) (by assumption), firstB_hit (k := k) (by omega) hall (badN_t (by first | exact .inl (by assumption) | exact .inr (.inl (by assumption)) | exact .inr (.inr (nsame (by assumption))) | exact .inr (.inr (.inl (by assumption))) | exact .inr (.inr (.inr (by simp_all)))))]; rfl) | (rw [fw_on (by assumption) (by assumption), firstB_none (k := k) (by omega) hall]; rfl))) (vI (by first | (rw [fw_bad (by assumption)]) | (rw [fw_long (by assumption) (by assumption)]) | (rw [fw_on (by assumption) (by assumption), firstB_hit (k := k) (by omega) hall (badN_t (by first | exact .inl (by assumption) | exact .inr (.inl (by assumption)) | exact .inr (.inr (nsame (by assumption))) | exact .inr (.inr (.inl (by assumption))) | exact .inr (.inr (.inr (by simp_all)))))]; rfl) | (rw [fw_on (by assumption) (by assumption), firstB_none (k := k) (by omega) hall]; rfl)))) [] (rfl) rfl (trivial)
    · refine ExL.pures 1 rfl ?_
      refine ExL.nil ?_
      refine Ex.cond_f rfl ?_
      refine Ex.skip ?_
      refine Ex.regSeq (ExL.pures 0 rfl ?_)
      refine ExL.free (fr_loadN rfl rfl rfl rfl rfl (SegO.whole (i := 0) rfl)) rfl rfl rfl ?_
      refine ExL.op rfl (op_ret rfl rfl rfl (c_cloneDevice d _ _ (by omega)) (Reads.get (Reads.old hd)) rfl rfl (fun x5 hx5 => ?_))
      refine ExL.op rfl (op_alloc rfl rfl rfl rfl rfl (fun b6 => ?_))
      refine ExL.op rfl (op_storeC (i := 0) rfl rfl rfl rfl rfl rfl rfl rfl rfl rfl ?_)
      refine ExL.nil ?_
      refine Ex.seq ?_
      refine Ex.regSeq (ExL.pures 3 rfl ?_)
      refine ExL.nil ?_
      refine Ex.block ?_
      refine Ex.loopK (X := Nat) (fun k => [(23, .int .i64 k)]) (fun k => [.blk b6 (encV x5.1 x5.2 (nowN d l k)) 28, .row (.slice x5.1 (nowN d l k).stack.length x5.2) 5 1 (nowN d l k).stack.length ((nowN d l k).stack.flatMap (eI .u8))]) (fun k => k ≤ l.length ∧ (∀ i, i < k → badN d l i = false) ∧ OkDev (nowN d l k) ∧ validDev (nowN d l k) = true) (fun k => l.length - k) 0 [(6, _), (21, _), (22, _)] [] 3 [0, 1] ⟨rfl, trivial⟩ ⟨rfl, rfl, rfl, trivial⟩ (rfl) rfl ⟨Nat.zero_le _, fun i hi => by omega, hk, by assumption⟩ (fun k hI => ?_)
      have hI : k ≤ l.length ∧ (∀ i, i < k → badN d l i = false) ∧ OkDev (nowN d l k) ∧ validDev (nowN d l k) = true := hI
      obtain ⟨hkl, hall, hnk, hnv⟩ := hI
      have hal : ∀ i, i < l.length → OkNote (l.getD i zN) := fun i hi => all_at hok _ hi
      have hdd := fun h => do_ok (a := (l.getD k zN).act) hnk hnv h
      refine Ex.regSeq (ExL.pures 0 rfl ?_)
      refine ExL.lss rfl rfl rfl rfl rfl rfl (fun h7 => ?_) (fun h7 => ?_)
      · refine ExL.nil ?_
        refine Ex.seq ?_
        refine Ex.cond_t rfl ?_
        refine Ex.skip ?_
        refine Ex.seq ?_
        refine Ex.block ?_
        refine Ex.regSeq (ExL.pures 1 rfl ?_)
        refine ExL.free (fr_indexAddrF (Reads.old hl) encN_len rfl rfl rfl rfl rfl rfl (by omega)) rfl rfl rfl ?_
        refine ExL.free (fr_loadN rfl rfl rfl rfl rfl (by first | exact segN (Reads.old hl) encN_len rfl zN (by omega) | exact segF (Reads.old hl) encN_len rfl zN (by omega))) rfl rfl rfl ?_
        refine ExL.op rfl (op_alloc rfl rfl rfl rfl rfl (fun b8 => ?_))
        refine ExL.pures 1 rfl ?_
        refine ExL.op rfl (op_storeC (i := 0) rfl rfl rfl rfl rfl rfl rfl rfl rfl rfl ?_)
        refine ExL.nil ?_
        refine Ex.seq ?_
        refine Ex.regSeq (ExL.pures 1 rfl ?_)
        refine ExL.free (fr_loadN rfl rfl rfl rfl rfl (SegO.part (i := 0) 2 rfl)) rfl rfl rfl ?_
        refine ExL.op rfl (op_ret rfl rfl rfl (c_ValidAct _) (fun _ _ => trivial) rfl rfl (fun x9 hx9 => ?_))
        refine ExL.pures 1 rfl ?_
        refine ExL.nil ?_
        refine Ex.cond rfl (fun hb10 => ?_) (fun hb10 => ?_)
        · replace hb10 := nb_t hb10
          refine Ex.regSeq (ExL.pures 3 rfl ?_)
          refine ExL.nil ?_
          refine Ex.ret ?_
          refine RetQ.mk () rfl (.tmp rfl (.tmp rfl .nil)) (t2 (vI (by first | (rw [fw_bad (by assumption)]) | (rw [fw_long (by assumption) (by assumption)]) | (rw [fw_on (by assumption) (by assumption), firstB_hit (k := k) (by omega) hall (badN_t (by first | exact .inl (by assumption) | exact .inr (.inl (by assumption)) | exact .inr (.inr (nsame (by assumption))) | exact .inr (.inr (.inl (by assumption))) | exact .inr (.inr (.inr (by simp_all)))))]; rfl) | (rw [fw_on (by assumption) (by assumption), firstB_none (k := k) (by omega) hall]; rfl))) (vI (by first | (rw [fw_bad (by assumption)]) | (rw [fw_long (by assumption) (by assumption)]) | (rw [fw_on (by assumption) (by assumption), firstB_hit (k := k) (by omega) hall (badN_t (by first | exact .inl (by assumption) | exact .inr (.inl (by assumption)) | exact .inr (.inr (nsame (by assumption))) | exact .inr (.inr (.inl (by assumption))) | exact .inr (.inr (.inr (by simp_all)))))]; rfl) | (rw [fw_on (by assumption) (by assumption), firstB_none (k := k) (by omega) hall]; rfl)))) [] (rfl) rfl (trivial)
        · replace hb10 := nb_f hb10
          refine Ex.skip ?_
          refine Ex.regSeq (ExL.pures 1 rfl ?_)
          refine ExL.free (fr_loadN rfl rfl rfl rfl rfl (SegO.part (i := 0) 2 rfl)) rfl rfl rfl ?_
          refine ExL.op rfl (op_mut rfl rfl rfl (c_do (nowN d l k) (by assumption) (by assumption) _ _ _ (l.getD k zN).act (by first | assumption | simp_all)) (perm_lt (i := 1) (j := 2) rfl rfl rfl) (trivial) rfl rfl (fun x11 hx11 => ?_))
          refine ExL.pures 5 rfl ?_
          refine ExL.nil ?_
          refine Ex.regSeq (ExL.pures 1 rfl ?_)
          refine ExL.neq rfl rfl rfl rfl rfl rfl (fun h12 => ?_) (fun h12 => ?_)
          · refine ExL.pures 10 rfl ?_
            refine ExL.nil ?_
            refine Ex.cond_t rfl ?_
            refine Ex.regSeq (ExL.pures 3 rfl ?_)
            refine ExL.nil ?_
            refine Ex.ret ?_
            refine RetQ.mk () rfl (.tmp rfl (.tmp rfl .nil)) (t2 (vI (by first | (rw [fw_bad (by assumption)]) | (rw [fw_long (by assumption) (by assumption)]) | (rw [fw_on (by assumption) (by assumption), firstB_hit (k := k) (by omega) hall (badN_t (by first | exact .inl (by assumption) | exact .inr (.inl (by assumption)) | exact .inr (.inr (nsame (by assumption))) | exact .inr (.inr (.inl (by assumption))) | exact .inr (.inr (.inr (by simp_all)))))]; rfl) | (rw [fw_on (by assumption) (by assumption), firstB_none (k := k) (by omega) hall]; rfl))) (vI (by first | (rw [fw_bad (by assumption)]) | (rw [fw_long (by assumption) (by assumption)]) | (rw [fw_on (by assumption) (by assumption), firstB_hit (k := k) (by omega) hall (badN_t (by first | exact .inl (by assumption) | exact .inr (.inl (by assumption)) | exact .inr (.inr (nsame (by assumption))) | exact .inr (.inr (.inl (by assumption))) | exact .inr (.inr (.inr (by simp_all)))))]; rfl) | (rw [fw_on (by assumption) (by assumption), firstB_none (k := k) (by omega) hall]; rfl)))) [] (rfl) rfl (trivial)
          · refine ExL.pures 1 rfl ?_
            refine ExL.free (fr_loadN rfl rfl rfl rfl rfl (SegO.whole (i := 2) rfl)) rfl rfl rfl ?_
            refine ExL.pures 1 rfl ?_
            refine ExL.free (fr_loadN rfl rfl rfl rfl rfl (SegO.part (i := 2) 2 rfl)) rfl rfl rfl ?_
            refine ExL.pures 1 rfl ?_
            refine ExL.free (fr_loadN rfl rfl rfl rfl rfl (SegO.part (i := 0) 8 rfl)) rfl rfl rfl ?_
            refine ExL.pures 1 rfl ?_
            refine ExL.free (fr_build (cells := encN ⟨(l.getD k zN).act, (doV (nowN d l k) (l.getD k zN).act).1.shows, (doV (nowN d l k) (l.getD k zN).act).2.1⟩) rfl rfl rfl (by kernel_rfl)) rfl rfl rfl ?_
            refine ExL.free (fr_neq_rec (eq_Note (l.getD k zN) ⟨(l.getD k zN).act, (doV (nowN d l k) (l.getD k zN).act).1.shows, (doV (nowN d l k) (l.getD k zN).act).2.1⟩) rfl rfl rfl (by kernel_rfl)) rfl rfl rfl ?_
            refine ExL.pures 1 rfl ?_
            refine ExL.nil ?_
            refine Ex.cond rfl (fun hb13 => ?_) (fun hb13 => ?_)
            · refine Ex.regSeq (ExL.pures 3 rfl ?_)
              refine ExL.nil ?_
              refine Ex.ret ?_
              refine RetQ.mk () rfl (.tmp rfl (.tmp rfl .nil)) (t2 (vI (by first | (rw [fw_bad (by assumption)]) | (rw [fw_long (by assumption) (by assumption)]) | (rw [fw_on (by assumption) (by assumption), firstB_hit (k := k) (by omega) hall (badN_t (by first | exact .inl (by assumption) | exact .inr (.inl (by assumption)) | exact .inr (.inr (nsame (by assumption))) | exact .inr (.inr (.inl (by assumption))) | exact .inr (.inr (.inr (by simp_all)))))]; rfl) | (rw [fw_on (by assumption) (by assumption), firstB_none (k := k) (by omega) hall]; rfl))) (vI (by first | (rw [fw_bad (by assumption)]) | (rw [fw_long (by assumption) (by assumption)]) | (rw [fw_on (by assumption) (by assumption), firstB_hit (k := k) (by omega) hall (badN_t (by first | exact .inl (by assumption) | exact .inr (.inl (by assumption)) | exact .inr (.inr (nsame (by assumption))) | exact .inr (.inr (.inl (by assumption))) | exact .inr (.inr (.inr (by simp_all)))))]; rfl) | (rw [fw_on (by assumption) (by assumption), firstB_none (k := k) (by omega) hall]; rfl)))) [] (rfl) rfl (trivial)
            · refine Ex.skip ?_
              refine Ex.region (ExL.pures 0 rfl ?_)
              refine ExL.free (by first | exact fr_add64 rfl rfl rfl (by omega) | exact fr_add rfl rfl rfl) rfl rfl rfl ?_
              refine ExL.pures 1 rfl ?_
              refine ExL.nil ?_
              have hys := ysame (by assumption)
              refine Hand.mk (k + 1) 3 [0, 1] ⟨rfl, trivial⟩ ⟨rfl, rfl, rfl, trivial⟩ (by rw [show nowN d l (k + 1) = (doV (nowN d l k) (l.getD k zN).act).1 from rfl, do_stack]; rfl) rfl (⟨by omega, all_snoc hall (badN_f (by rintro (h | h | h | h) <;> simp_all)), (hdd (by assumption)).1, (hdd (by assumption)).2⟩) (by omega)
      · refine ExL.nil ?_
        refine Ex.seq ?_
        refine Ex.cond_f rfl ?_
        refine Ex.exit ?_
        refine Ex.regSeq (ExL.pures 2 rfl ?_)
        refine ExL.nil ?_
        refine Ex.ret ?_
        refine RetQ.mk () rfl (.tmp rfl (.tmp rfl .nil)) (t2 (vI (by first | (rw [fw_bad (by assumption)]) | (rw [fw_long (by assumption) (by assumption)]) | (rw [fw_on (by assumption) (by assumption), firstB_hit (k := k) (by omega) hall (badN_t (by first | exact .inl (by assumption) | exact .inr (.inl (by assumption)) | exact .inr (.inr (nsame (by assumption))) | exact .inr (.inr (.inl (by assumption))) | exact .inr (.inr (.inr (by simp_all)))))]; rfl) | (rw [fw_on (by assumption) (by assumption), firstB_none (k := k) (by omega) hall]; rfl))) (vI (by first | (rw [fw_bad (by assumption)]) | (rw [fw_long (by assumption) (by assumption)]) | (rw [fw_on (by assumption) (by assumption), firstB_hit (k := k) (by omega) hall (badN_t (by first | exact .inl (by assumption) | exact .inr (.inl (by assumption)) | exact .inr (.inr (nsame (by assumption))) | exact .inr (.inr (.inl (by assumption))) | exact .inr (.inr (.inr (by simp_all)))))]; rfl) | (rw [fw_on (by assumption) (by assumption), firstB_none (k := k) (by omega) hall]; rfl)))) [] (rfl) rfl (trivial)
end Go.Proofs.Ythocfcgiikobkaa

/- What these functions of the program hand back, each proved by walking its operations. -/
set_option linter.unusedVariables false
set_option linter.unusedSimpArgs false
set_option maxRecDepth 4000
namespace Go.Proofs.Ythocfcgiikobkaa
open Go Go.Sx Go.RowKit Go.W Go.Proofs
attribute [local irreducible] Ex ExL ExD Op1 Free RetQ MutQ Reads CellO SegO LoadsAs
theorem e_3 : Enters Try.prog 3 := Enters.of Try.func3 rfl
set_option maxHeartbeats 1000000 in
theorem w_FnJournals (s : List Int) (hus : Nums 255 s) (As : Option Addr) (cs : Nat) (hls : s.length ≤ maxLen) (t : List Int) (hut : Nums 255 t) (At : Option Addr) (ct : Nat) (hlt : t.length ≤ maxLen) : Ret Try.prog 3 [.slice As s.length cs, .slice At t.length ct] (fun w => Rd w As (s.flatMap (eI .u8)) ∧ Rd w At (t.flatMap (eI .u8))) (fun x : Unit => .bool true) (fun x => []) (fun x => True) := by
  refine Ret.of e_3 Try.func3 rfl Try.ntmps3 rfl rfl (fun w hpre => ?_)
  have hs := hpre.1.base
  have ht := hpre.2.base
  have hm0 : maxLen = 9223372036854775807 := rfl
  refine Ex.regSeq (ExL.pures 1 rfl ?_)
  refine ExL.nil ?_
  refine Ex.seq ?_
  refine Ex.regSeq (ExL.pures 1 rfl ?_)
  refine ExL.op rfl (op_ret rfl rfl rfl (c_f6big s _ _ (by omega)) (fun _ _ => trivial) rfl rfl (fun x1 hx1 => ?_))
  refine ExL.pures 1 rfl ?_
  refine ExL.bool (d := 38) rfl (fun hb2 => ?_) (fun hb2 => ?_)
  · replace hb2 := of_decide_eq_true hb2
    refine ExL.pures 3 rfl ?_
    refine ExL.nil ?_
    refine Ex.cond_t rfl ?_
    refine Ex.regSeq (ExL.pures 1 rfl ?_)
    refine ExL.nil ?_
    refine Ex.ret ?_
    refine RetQ.mk () rfl (.tmp rfl .nil) (rfl) [] (rfl) rfl (trivial)
  · replace hb2 := of_decide_eq_false hb2
    refine ExL.pures 1 rfl ?_
    refine ExL.op rfl (op_ret rfl rfl rfl (c_f6big t _ _ (by omega)) (fun _ _ => trivial) rfl rfl (fun x3 hx3 => ?_))
    refine ExL.pures 1 rfl ?_
    refine ExL.nil ?_
    refine Ex.cond rfl (fun hb4 => ?_) (fun hb4 => ?_)
    · replace hb4 := of_decide_eq_true hb4
      refine Ex.regSeq (ExL.pures 1 rfl ?_)
      refine ExL.nil ?_
      refine Ex.ret ?_
      refine RetQ.mk () rfl (.tmp rfl .nil) (rfl) [] (rfl) rfl (trivial)
    · replace hb4 := of_decide_eq_false hb4
      refine Ex.skip ?_
      refine Ex.regSeq (ExL.pures 1 rfl ?_)
      refine ExL.op rfl (op_ret rfl rfl rfl (c_P6Device s _ _ (by omega) (by assumption)) (Reads.get (Reads.old hs)) rfl rfl (fun x5 hx5 => ?_))
      obtain ⟨hkx5, hvx5, hlx5, htx5⟩ := hx5
      have hDx5 : DrDev x5.2 := ⟨hkx5, hvx5, hlx5, htx5⟩
      have hNx5 := hDx5.len
      have hSx5 := hNx5.2.2.1
      have hux5 := hNx5.2.2.2.1
      refine ExL.know (row_some (i := 0) rfl) (fun hrox5 => ?_)
      have hAx5 : x5.1.1 = none → x5.1.2 = 0 := fun e => by have h9 := hrox5.2.2.2 (by omega); rw [e] at h9; cases h9
      refine ExL.op rfl (op_alloc rfl rfl rfl rfl rfl (fun b6 => ?_))
      refine ExL.op rfl (op_storeC (i := 0) rfl rfl rfl rfl rfl rfl rfl rfl rfl rfl ?_)
      refine ExL.nil ?_
      refine Ex.regSeq (ExL.pures 1 rfl ?_)
      refine ExL.free (fr_loadN rfl rfl rfl rfl rfl (SegO.whole (i := 0) rfl)) rfl rfl rfl ?_
      refine ExL.op rfl (op_ret rfl rfl rfl (c_P6Acts t _ _ (by omega) (by assumption) x5.2 (by assumption) _ _) (fun w hw => ⟨Reads.get (Reads.old ht) w hw, Reads.get (Reads.row (i := 1) rfl) w hw⟩) rfl rfl (fun x7 hx7 => ?_))
      have hLx7 := hx7.1
      refine ExL.pures 1 rfl ?_
      refine ExL.nil ?_
      have hJ := jrn hDx5 hx7
      have hJo := hJ.ok
      have hln := hJ.len
      have hc0 := hJ.code
      have hrt := hJ.right
      have hL9 := hx7.1
      refine Ex.regSeq (ExL.pures 0 rfl ?_)
      refine ExL.free (fr_loadN rfl rfl rfl rfl rfl (SegO.whole (i := 1) rfl)) rfl rfl rfl ?_
      refine ExL.pures 1 rfl ?_
      refine ExL.op rfl (op_ret rfl rfl rfl (c_iJournalOf x5.2 (by first | exact hBd | assumption) _ _ (by first | exact hAE | assumption | exact (fun e => nomatch e)) (by omega) x7.2 _ _ (by omega)) (fun w hw => ⟨Reads.get (Reads.row (i := 2) rfl) w hw, Reads.get (Reads.row (i := 0) rfl) w hw⟩) rfl rfl (fun x8 hx8 => ?_))
      refine ExL.pures 5 rfl ?_
      refine ExL.nil ?_
      refine Ex.regSeq (ExL.pures 0 rfl ?_)
      refine ExL.free (fr_loadN rfl rfl rfl rfl rfl (SegO.whole (i := 2) rfl)) rfl rfl rfl ?_
      refine ExL.pures 1 rfl ?_
      refine ExL.op rfl (op_ret rfl rfl rfl (c_sJournalOf x5.2 (by first | exact hBd | assumption) _ _ (by first | exact hAE | assumption | exact (fun e => nomatch e)) (by omega) x7.2 _ _ (by omega)) (fun w hw => ⟨Reads.get (Reads.row (i := 3) rfl) w hw, Reads.get (Reads.row (i := 1) rfl) w hw⟩) rfl rfl (fun x9 hx9 => ?_))
      refine ExL.pures 5 rfl ?_
      refine ExL.nil ?_
      refine Ex.regSeq (ExL.pures 0 rfl ?_)
      refine ExL.free (fr_loadN rfl rfl rfl rfl rfl (SegO.whole (i := 3) rfl)) rfl rfl rfl ?_
      refine ExL.pures 1 rfl ?_
      refine ExL.op rfl (op_ret rfl rfl rfl (c_iFirstWrong x5.2 (by assumption) _ _ (by first | assumption | exact (fun e => nomatch e)) (by omega) ((runV x5.2 x7.2).2.1) (by assumption) _ _ (by omega)) (fun w hw => ⟨Reads.get (Reads.row (i := 4) rfl) w hw, Reads.get (Reads.row (i := 0) rfl) w hw⟩) rfl rfl (fun x10 hx10 => ?_))
      refine ExL.pures 5 rfl ?_
      refine ExL.nil ?_
      refine Ex.regSeq (ExL.pures 1 rfl ?_)
      refine ExL.free (fr_load rfl rfl rfl rfl (CellO.blk (i := 3) rfl rfl)) rfl rfl rfl ?_
      refine ExL.op rfl (op_ret rfl rfl rfl (c_sNewDevice x5.2.stack (by assumption) _ _ (by omega)) (Reads.get (Reads.row (i := 4) rfl)) rfl rfl (fun x11 hx11 => ?_))
      refine ExL.pures 3 rfl ?_
      refine ExL.op rfl (op_alloc rfl rfl rfl rfl rfl (fun b12 => ?_))
      refine ExL.op rfl (op_storeC (i := 0) rfl rfl rfl rfl rfl rfl rfl rfl rfl rfl ?_)
      refine ExL.pures 1 rfl ?_
      refine ExL.nil ?_
      refine Ex.seq ?_
      obtain ⟨E, hE⟩ : ∃ E, (newDev x5.2.stack).1 = E := ⟨_, rfl⟩
      rw [hE]
      have hE2 : (newDev x5.2.stack).2 = 0 := by rw [nwd_t (by assumption)]
      rw [hE2]
      refine Ex.regSeq (ExL.pures 2 rfl ?_)
      refine ExL.free (fr_neq_f rfl rfl rfl (fun h => h rfl)) rfl rfl rfl ?_
      refine ExL.pures 2 rfl ?_
      refine ExL.free (fr_neq_f rfl rfl rfl (by rw [hc0]; exact fun h => h rfl)) rfl rfl rfl ?_
      refine ExL.pures 4 rfl ?_
      refine ExL.op rfl (op_ret rfl rfl rfl (c_SameNotes ((runV x5.2 x7.2).2.1) _ _ (by omega) _ _) (fun w hw => ⟨Reads.get (Reads.row (i := 3) rfl) w hw, Reads.get (Reads.row (i := 2) rfl) w hw⟩) rfl rfl (fun x13 hx13 => ?_))
      refine ExL.pures 7 rfl ?_
      refine ExL.free (fr_neq_f rfl rfl rfl (by omega)) rfl rfl rfl ?_
      refine ExL.pures 3 rfl ?_
      refine ExL.free (fr_neq_f rfl rfl rfl (by rw [hrt]; exact fun h => h rfl)) rfl rfl rfl ?_
      refine ExL.pures 3 rfl ?_
      refine ExL.free (fr_neq_f rfl rfl rfl (fun h => h rfl)) rfl rfl rfl ?_
      refine ExL.pures 1 rfl ?_
      refine ExL.nil ?_
      refine Ex.cond_f rfl ?_
      refine Ex.skip ?_
      refine Ex.seq ?_
      refine Ex.regSeq (ExL.pures 1 rfl ?_)
      refine ExL.nil ?_
      refine Ex.block ?_
      refine Ex.loopK (X := Nat) (fun k => [(15, .int .i64 k)]) (fun k => []) (fun k => k ≤ ((runV x5.2 x7.2).2.1).length) (fun k => ((runV x5.2 x7.2).2.1).length - k) 0 [(0, _), (1, _), (5, _), (6, _), (9, _), (13, _)] [_, _, _, _, _, _] 7 [0, 1, 2, 4, 5, 6] ⟨rfl, trivial⟩ ⟨rfl, rfl, rfl, rfl, rfl, rfl, trivial⟩ (rfl) rfl (Nat.zero_le _) (fun k hI => ?_)
      have hI : k ≤ ((runV x5.2 x7.2).2.1).length := hI
      refine Ex.seq ?_
      refine Ex.regSeq (ExL.pures 3 rfl ?_)
      refine ExL.lss rfl rfl rfl rfl rfl rfl (fun h14 => ?_) (fun h14 => ?_)
      · refine ExL.nil ?_
        refine Ex.cond_t rfl ?_
        refine Ex.skip ?_
        refine Ex.seq ?_
        refine Ex.block ?_
        have hno := hJ.each k (by omega)
        refine Ex.drawSeqM rfl ?_
        refine ExD.take (i := 0) rfl (by kernel_rfl) (pureVal_ok rfl) ((List.Sublist.refl _)) rfl rfl rfl ?_
        refine ExD.take (i := 1) rfl (by kernel_rfl) (pureVal_ok rfl) ((List.Sublist.refl _)) rfl rfl rfl ?_
        refine ExD.take (i := 2) rfl (by kernel_rfl) (fr_indexAddrR (sz := 11) 2 rfl rfl rfl rfl rfl rfl (by omega)) ((List.Sublist.refl _)) rfl rfl rfl ?_
        refine ExD.take (i := 3) rfl (by kernel_rfl) (fr_fieldAddrR 2 rfl (by omega) rfl rfl rfl rfl rfl rfl) ((List.Sublist.refl _)) rfl rfl rfl ?_
        refine ExD.take (i := 4) rfl (by kernel_rfl) (fr_loadN rfl rfl rfl rfl rfl (by first | exact partN (Reads.row (i := 2) rfl) encN_len zN 0 2 rfl rfl (by omega) rfl | exact partF (Reads.row (i := 2) rfl) encN_len zN 0 2 rfl rfl (by omega) rfl)) ((List.Sublist.refl _)) rfl rfl rfl ?_
        refine ExD.take (i := 5) rfl (by kernel_rfl) (pureVal_ok rfl) ((List.Sublist.refl _)) rfl rfl rfl ?_
        refine ExD.take (i := 6) rfl (by kernel_rfl) (pureVal_ok rfl) ((List.Sublist.refl _)) rfl rfl rfl ?_
        refine ExD.take (i := 7) rfl (by kernel_rfl) (fr_indexAddrR (sz := 2) 3 rfl rfl rfl rfl rfl rfl (by omega)) ((List.Sublist.refl _)) rfl rfl rfl ?_
        refine ExD.take (i := 8) rfl (by kernel_rfl) (fr_loadN rfl rfl rfl rfl rfl (by first | exact segN (Reads.row (i := 3) rfl) encA_len rfl zA (by omega) | exact segF (Reads.row (i := 3) rfl) encA_len rfl zA (by omega))) ((List.Sublist.refl _)) rfl rfl rfl ?_
        refine ExD.take (i := 9) rfl (by kernel_rfl) (fr_neq_rec (EqOk.as (eq_Act 9998 (((runV x5.2 x7.2).2.1).getD k zN).act (x7.2.getD k zA)) hno.1) rfl rfl rfl (by kernel_rfl)) ((List.Sublist.refl _)) rfl rfl rfl ?_
        refine ExD.take (i := 10) rfl (by kernel_rfl) (pureVal_ok rfl) ((List.Sublist.refl _)) rfl rfl rfl ?_
        refine ExD.take (i := 11) rfl (by kernel_rfl) (pureVal_ok rfl) ((List.Sublist.refl _)) rfl rfl rfl ?_
        refine ExD.take (i := 12) rfl (by kernel_rfl) (pureVal_ok rfl) ((List.Sublist.refl _)) rfl rfl rfl ?_
        refine ExD.take (i := 13) rfl (by kernel_rfl) (fr_indexAddrR (sz := 11) 2 rfl rfl rfl rfl rfl rfl (by omega)) ((List.Sublist.refl _)) rfl rfl rfl ?_
        refine ExD.take (i := 14) rfl (by kernel_rfl) (fr_fieldAddrR 2 rfl (by omega) rfl rfl rfl rfl rfl rfl) ((List.Sublist.refl _)) rfl rfl rfl ?_
        refine ExD.take (i := 15) rfl (by kernel_rfl) (fr_load rfl rfl rfl rfl (by first | exact cellN (Reads.row (i := 2) rfl) encN_len zN 10 rfl (by omega) rfl | exact cellF (Reads.row (i := 2) rfl) encN_len zN 10 rfl (by omega) rfl)) ((List.Sublist.refl _)) rfl rfl rfl ?_
        refine ExD.take (i := 16) rfl (by kernel_rfl) (fr_lss_f rfl rfl rfl (Int.not_lt.2 hno.2.1)) ((List.Sublist.refl _)) rfl rfl rfl ?_
        refine ExD.take (i := 17) rfl (by kernel_rfl) (pureVal_ok rfl) ((List.Sublist.refl _)) rfl rfl rfl ?_
        refine ExD.take (i := 18) rfl (by kernel_rfl) (pureVal_ok rfl) ((List.Sublist.refl _)) rfl rfl rfl ?_
        refine ExD.take (i := 19) rfl (by kernel_rfl) (pureVal_ok rfl) ((List.Sublist.refl _)) rfl rfl rfl ?_
        refine ExD.take (i := 20) rfl (by kernel_rfl) (pureVal_ok rfl) ((List.Sublist.refl _)) rfl rfl rfl ?_
        refine ExD.take (i := 21) rfl (by kernel_rfl) (fr_indexAddrR (sz := 11) 2 rfl rfl rfl rfl rfl rfl (by omega)) ((List.Sublist.refl _)) rfl rfl rfl ?_
        refine ExD.take (i := 22) rfl (by kernel_rfl) (fr_fieldAddrR 2 rfl (by omega) rfl rfl rfl rfl rfl rfl) ((List.Sublist.refl _)) rfl rfl rfl ?_
        refine ExD.take (i := 23) rfl (by kernel_rfl) (fr_load rfl rfl rfl rfl (by first | exact cellN (Reads.row (i := 2) rfl) encN_len zN 10 rfl (by omega) rfl | exact cellF (Reads.row (i := 2) rfl) encN_len zN 10 rfl (by omega) rfl)) ((List.Sublist.refl _)) rfl rfl rfl ?_
        refine ExD.take (i := 24) rfl (by kernel_rfl) (pureVal_ok rfl) ((List.Sublist.refl _)) rfl rfl rfl ?_
        refine ExD.take (i := 25) rfl (by kernel_rfl) (pureVal_ok rfl) ((List.Sublist.refl _)) rfl rfl rfl ?_
        refine ExD.take (i := 26) rfl (by kernel_rfl) (fr_indexAddrR (sz := 2) 3 rfl rfl rfl rfl rfl rfl (by omega)) ((List.Sublist.refl _)) rfl rfl rfl ?_
        refine ExD.take (i := 27) rfl (by kernel_rfl) (fr_fieldAddrR 3 rfl (by omega) rfl rfl rfl rfl rfl rfl) ((List.Sublist.refl _)) rfl rfl rfl ?_
        refine ExD.take (i := 28) rfl (by kernel_rfl) (fr_load rfl rfl rfl rfl (by first | exact cellN (Reads.row (i := 3) rfl) encA_len zA 1 rfl (by omega) rfl | exact cellF (Reads.row (i := 3) rfl) encA_len zA 1 rfl (by omega) rfl)) ((List.Sublist.refl _)) rfl rfl rfl ?_
        refine ExD.cmp_gtr (i := 29) rfl (by kernel_rfl) rfl rfl rfl ((List.Sublist.refl _)) rfl rfl rfl (fun h15 => ?_) (fun h15 => ?_)
        · refine ExD.take (i := 30) rfl (by kernel_rfl) (pureVal_ok rfl) ((List.Sublist.refl _)) rfl rfl rfl ?_
          refine ExD.take (i := 31) rfl (by kernel_rfl) (pureVal_ok rfl) ((List.Sublist.refl _)) rfl rfl rfl ?_
          refine ExD.take (i := 32) rfl (by kernel_rfl) (pureVal_ok rfl) ((List.Sublist.refl _)) rfl rfl rfl ?_
          refine ExD.take (i := 33) rfl (by kernel_rfl) (fr_indexAddrR (sz := 2) 3 rfl rfl rfl rfl rfl rfl (by omega)) ((List.Sublist.refl _)) rfl rfl rfl ?_
          refine ExD.take (i := 34) rfl (by kernel_rfl) (fr_fieldAddrR 3 rfl (by omega) rfl rfl rfl rfl rfl rfl) ((List.Sublist.refl _)) rfl rfl rfl ?_
          refine ExD.take (i := 35) rfl (by kernel_rfl) (fr_load rfl rfl rfl rfl (by first | exact cellN (Reads.row (i := 3) rfl) encA_len zA 0 rfl (by omega) rfl | exact cellF (Reads.row (i := 3) rfl) encA_len zA 0 rfl (by omega) rfl)) ((List.Sublist.refl _)) rfl rfl rfl ?_
          refine ExD.take (i := 36) rfl (by kernel_rfl) (fr_neq_f rfl rfl rfl (fun h9 => absurd (hno.2.2.2.1 h9) (by omega))) ((List.Sublist.refl _)) rfl rfl rfl ?_
          refine ExD.take (i := 37) rfl (by kernel_rfl) (pureVal_ok rfl) ((List.Sublist.refl _)) rfl rfl rfl ?_
          refine ExD.take (i := 38) rfl (by kernel_rfl) (pureVal_ok rfl) ((List.Sublist.refl _)) rfl rfl rfl ?_
          refine ExD.take (i := 39) rfl (by kernel_rfl) (pureVal_ok rfl) ((List.Sublist.refl _)) rfl rfl rfl ?_
          refine ExD.take (i := 40) rfl (by kernel_rfl) (pureVal_ok rfl) ((List.Sublist.refl _)) rfl rfl rfl ?_
          refine ExD.take (i := 41) rfl (by kernel_rfl) (pureVal_ok rfl) ((List.Sublist.refl _)) rfl rfl rfl ?_
          refine ExD.take (i := 42) rfl (by kernel_rfl) (fr_indexAddrR (sz := 2) 3 rfl rfl rfl rfl rfl rfl (by omega)) ((List.Sublist.refl _)) rfl rfl rfl ?_
          refine ExD.take (i := 43) rfl (by kernel_rfl) (fr_fieldAddrR 3 rfl (by omega) rfl rfl rfl rfl rfl rfl) ((List.Sublist.refl _)) rfl rfl rfl ?_
          refine ExD.take (i := 44) rfl (by kernel_rfl) (fr_load rfl rfl rfl rfl (by first | exact cellN (Reads.row (i := 3) rfl) encA_len zA 0 rfl (by omega) rfl | exact cellF (Reads.row (i := 3) rfl) encA_len zA 0 rfl (by omega) rfl)) ((List.Sublist.refl _)) rfl rfl rfl ?_
          refine ExD.cmp_gtr (i := 45) rfl (by kernel_rfl) rfl rfl rfl ((List.Sublist.refl _)) rfl rfl rfl (fun h16 => ?_) (fun h16 => ?_)
          · refine ExD.take (i := 46) rfl (by kernel_rfl) (pureVal_ok rfl) ((List.Sublist.refl _)) rfl rfl rfl ?_
            refine ExD.take (i := 47) rfl (by kernel_rfl) (pureVal_ok rfl) ((List.Sublist.refl _)) rfl rfl rfl ?_
            refine ExD.take (i := 48) rfl (by kernel_rfl) (pureVal_ok rfl) ((List.Sublist.refl _)) rfl rfl rfl ?_
            refine ExD.take (i := 49) rfl (by kernel_rfl) (fr_indexAddrR (sz := 11) 2 rfl rfl rfl rfl rfl rfl (by omega)) ((List.Sublist.refl _)) rfl rfl rfl ?_
            refine ExD.take (i := 50) rfl (by kernel_rfl) (fr_fieldAddrR 2 rfl (by omega) rfl rfl rfl rfl rfl rfl) ((List.Sublist.refl _)) rfl rfl rfl ?_
            refine ExD.take (i := 51) rfl (by kernel_rfl) (fr_load rfl rfl rfl rfl (by first | exact cellN (Reads.row (i := 2) rfl) encN_len zN 10 rfl (by omega) rfl | exact cellF (Reads.row (i := 2) rfl) encN_len zN 10 rfl (by omega) rfl)) ((List.Sublist.refl _)) rfl rfl rfl ?_
            refine ExD.take (i := 52) rfl (by kernel_rfl) (fr_neq_f rfl rfl rfl (fun h9 => h9 (hno.2.2.2.2 (by omega)))) ((List.Sublist.refl _)) rfl rfl rfl ?_
            refine ExD.take (i := 53) rfl (by kernel_rfl) (pureVal_ok rfl) ((List.Sublist.refl _)) rfl rfl rfl ?_
            refine ExD.take (i := 54) rfl (by kernel_rfl) (pureVal_ok rfl) ((List.Sublist.refl _)) rfl rfl rfl ?_
            refine ExD.done (by kernel_rfl) ?_
            refine Ex.cond_f rfl ?_
            refine Ex.skip ?_
            refine Ex.region (ExL.pures 1 rfl ?_)
            refine ExL.free (by first | exact fr_add64 rfl rfl rfl (by omega) | exact fr_add rfl rfl rfl) rfl rfl rfl ?_
            refine ExL.pures 1 rfl ?_
            refine ExL.nil ?_
            refine Hand.mk (k + 1) 6 [0, 1, 2, 3, 4, 5] ⟨rfl, trivial⟩ ⟨rfl, rfl, rfl, rfl, rfl, rfl, trivial⟩ (rfl) rfl (by omega) (by omega)
          · refine ExD.take (i := 46) rfl (by kernel_rfl) (pureVal_ok rfl) ((List.Sublist.refl _)) rfl rfl rfl ?_
            refine ExD.pass (i := 47) rfl (by kernel_rfl) ((List.Sublist.refl _)) rfl rfl rfl ?_
            refine ExD.pass (i := 48) rfl (by kernel_rfl) ((List.Sublist.refl _)) rfl rfl rfl ?_
            refine ExD.pass (i := 49) rfl (by kernel_rfl) ((List.Sublist.refl _)) rfl rfl rfl ?_
            refine ExD.pass (i := 50) rfl (by kernel_rfl) ((List.Sublist.refl _)) rfl rfl rfl ?_
            refine ExD.pass (i := 51) rfl (by kernel_rfl) ((List.Sublist.refl _)) rfl rfl rfl ?_
            refine ExD.pass (i := 52) rfl (by kernel_rfl) ((List.Sublist.refl _)) rfl rfl rfl ?_
            refine ExD.take (i := 53) rfl (by kernel_rfl) (pureVal_ok rfl) ((List.Sublist.refl _)) rfl rfl rfl ?_
            refine ExD.take (i := 54) rfl (by kernel_rfl) (pureVal_ok rfl) ((List.Sublist.refl _)) rfl rfl rfl ?_
            refine ExD.done (by kernel_rfl) ?_
            refine Ex.cond_f rfl ?_
            refine Ex.skip ?_
            refine Ex.region (ExL.pures 1 rfl ?_)
            refine ExL.free (by first | exact fr_add64 rfl rfl rfl (by omega) | exact fr_add rfl rfl rfl) rfl rfl rfl ?_
            refine ExL.pures 1 rfl ?_
            refine ExL.nil ?_
            refine Hand.mk (k + 1) 6 [0, 1, 2, 3, 4, 5] ⟨rfl, trivial⟩ ⟨rfl, rfl, rfl, rfl, rfl, rfl, trivial⟩ (rfl) rfl (by omega) (by omega)
        · refine ExD.take (i := 30) rfl (by kernel_rfl) (pureVal_ok rfl) ((List.Sublist.refl _)) rfl rfl rfl ?_
          refine ExD.pass (i := 31) rfl (by kernel_rfl) ((List.Sublist.refl _)) rfl rfl rfl ?_
          refine ExD.pass (i := 32) rfl (by kernel_rfl) ((List.Sublist.refl _)) rfl rfl rfl ?_
          refine ExD.pass (i := 33) rfl (by kernel_rfl) ((List.Sublist.refl _)) rfl rfl rfl ?_
          refine ExD.pass (i := 34) rfl (by kernel_rfl) ((List.Sublist.refl _)) rfl rfl rfl ?_
          refine ExD.pass (i := 35) rfl (by kernel_rfl) ((List.Sublist.refl _)) rfl rfl rfl ?_
          refine ExD.pass (i := 36) rfl (by kernel_rfl) ((List.Sublist.refl _)) rfl rfl rfl ?_
          refine ExD.take (i := 37) rfl (by kernel_rfl) (pureVal_ok rfl) ((List.Sublist.refl _)) rfl rfl rfl ?_
          refine ExD.take (i := 38) rfl (by kernel_rfl) (pureVal_ok rfl) ((List.Sublist.refl _)) rfl rfl rfl ?_
          refine ExD.take (i := 39) rfl (by kernel_rfl) (pureVal_ok rfl) ((List.Sublist.refl _)) rfl rfl rfl ?_
          refine ExD.take (i := 40) rfl (by kernel_rfl) (pureVal_ok rfl) ((List.Sublist.refl _)) rfl rfl rfl ?_
          refine ExD.take (i := 41) rfl (by kernel_rfl) (pureVal_ok rfl) ((List.Sublist.refl _)) rfl rfl rfl ?_
          refine ExD.take (i := 42) rfl (by kernel_rfl) (fr_indexAddrR (sz := 2) 3 rfl rfl rfl rfl rfl rfl (by omega)) ((List.Sublist.refl _)) rfl rfl rfl ?_
          refine ExD.take (i := 43) rfl (by kernel_rfl) (fr_fieldAddrR 3 rfl (by omega) rfl rfl rfl rfl rfl rfl) ((List.Sublist.refl _)) rfl rfl rfl ?_
          refine ExD.take (i := 44) rfl (by kernel_rfl) (fr_load rfl rfl rfl rfl (by first | exact cellN (Reads.row (i := 3) rfl) encA_len zA 0 rfl (by omega) rfl | exact cellF (Reads.row (i := 3) rfl) encA_len zA 0 rfl (by omega) rfl)) ((List.Sublist.refl _)) rfl rfl rfl ?_
          refine ExD.cmp_gtr (i := 45) rfl (by kernel_rfl) rfl rfl rfl ((List.Sublist.refl _)) rfl rfl rfl (fun h17 => ?_) (fun h17 => ?_)
          · refine ExD.take (i := 46) rfl (by kernel_rfl) (pureVal_ok rfl) ((List.Sublist.refl _)) rfl rfl rfl ?_
            refine ExD.take (i := 47) rfl (by kernel_rfl) (pureVal_ok rfl) ((List.Sublist.refl _)) rfl rfl rfl ?_
            refine ExD.take (i := 48) rfl (by kernel_rfl) (pureVal_ok rfl) ((List.Sublist.refl _)) rfl rfl rfl ?_
            refine ExD.take (i := 49) rfl (by kernel_rfl) (fr_indexAddrR (sz := 11) 2 rfl rfl rfl rfl rfl rfl (by omega)) ((List.Sublist.refl _)) rfl rfl rfl ?_
            refine ExD.take (i := 50) rfl (by kernel_rfl) (fr_fieldAddrR 2 rfl (by omega) rfl rfl rfl rfl rfl rfl) ((List.Sublist.refl _)) rfl rfl rfl ?_
            refine ExD.take (i := 51) rfl (by kernel_rfl) (fr_load rfl rfl rfl rfl (by first | exact cellN (Reads.row (i := 2) rfl) encN_len zN 10 rfl (by omega) rfl | exact cellF (Reads.row (i := 2) rfl) encN_len zN 10 rfl (by omega) rfl)) ((List.Sublist.refl _)) rfl rfl rfl ?_
            refine ExD.take (i := 52) rfl (by kernel_rfl) (fr_neq_f rfl rfl rfl (fun h9 => h9 (hno.2.2.2.2 (by omega)))) ((List.Sublist.refl _)) rfl rfl rfl ?_
            refine ExD.take (i := 53) rfl (by kernel_rfl) (pureVal_ok rfl) ((List.Sublist.refl _)) rfl rfl rfl ?_
            refine ExD.take (i := 54) rfl (by kernel_rfl) (pureVal_ok rfl) ((List.Sublist.refl _)) rfl rfl rfl ?_
            refine ExD.done (by kernel_rfl) ?_
            refine Ex.cond_f rfl ?_
            refine Ex.skip ?_
            refine Ex.region (ExL.pures 1 rfl ?_)
            refine ExL.free (by first | exact fr_add64 rfl rfl rfl (by omega) | exact fr_add rfl rfl rfl) rfl rfl rfl ?_
            refine ExL.pures 1 rfl ?_
            refine ExL.nil ?_
            refine Hand.mk (k + 1) 6 [0, 1, 2, 3, 4, 5] ⟨rfl, trivial⟩ ⟨rfl, rfl, rfl, rfl, rfl, rfl, trivial⟩ (rfl) rfl (by omega) (by omega)
          · refine ExD.take (i := 46) rfl (by kernel_rfl) (pureVal_ok rfl) ((List.Sublist.refl _)) rfl rfl rfl ?_
            refine ExD.pass (i := 47) rfl (by kernel_rfl) ((List.Sublist.refl _)) rfl rfl rfl ?_
            refine ExD.pass (i := 48) rfl (by kernel_rfl) ((List.Sublist.refl _)) rfl rfl rfl ?_
            refine ExD.pass (i := 49) rfl (by kernel_rfl) ((List.Sublist.refl _)) rfl rfl rfl ?_
            refine ExD.pass (i := 50) rfl (by kernel_rfl) ((List.Sublist.refl _)) rfl rfl rfl ?_
            refine ExD.pass (i := 51) rfl (by kernel_rfl) ((List.Sublist.refl _)) rfl rfl rfl ?_
            refine ExD.pass (i := 52) rfl (by kernel_rfl) ((List.Sublist.refl _)) rfl rfl rfl ?_
            refine ExD.take (i := 53) rfl (by kernel_rfl) (pureVal_ok rfl) ((List.Sublist.refl _)) rfl rfl rfl ?_
            refine ExD.take (i := 54) rfl (by kernel_rfl) (pureVal_ok rfl) ((List.Sublist.refl _)) rfl rfl rfl ?_
            refine ExD.done (by kernel_rfl) ?_
            refine Ex.cond_f rfl ?_
            refine Ex.skip ?_
            refine Ex.region (ExL.pures 1 rfl ?_)
            refine ExL.free (by first | exact fr_add64 rfl rfl rfl (by omega) | exact fr_add rfl rfl rfl) rfl rfl rfl ?_
            refine ExL.pures 1 rfl ?_
            refine ExL.nil ?_
            refine Hand.mk (k + 1) 6 [0, 1, 2, 3, 4, 5] ⟨rfl, trivial⟩ ⟨rfl, rfl, rfl, rfl, rfl, rfl, trivial⟩ (rfl) rfl (by omega) (by omega)
      · refine ExL.nil ?_
        refine Ex.cond_f rfl ?_
        refine Ex.exit ?_
        refine Ex.seq ?_
        refine Ex.regSeq (ExL.pures 2 rfl ?_)
        refine ExL.gtr rfl rfl rfl rfl rfl rfl (fun h18 => ?_) (fun h18 => ?_)
        · refine ExL.nil ?_
          refine Ex.cond_t rfl ?_
          refine Ex.regSeq (ExL.pures 3 rfl ?_)
          refine ExL.op rfl (op_ret rfl rfl rfl (c_P6Pick s _ _ (by omega) (by assumption) ((runV x5.2 x7.2).2.1).length (by omega)) (Reads.get (Reads.old hs)) rfl rfl (fun x19 hx19 => ?_))
          obtain ⟨kx19, hkx19⟩ : ∃ k : Nat, x19 = (k : Int) := ⟨x19.toNat, by omega⟩
          subst hkx19
          refine ExL.pures 1 rfl ?_
          refine ExL.nil ?_
          have hN0 : 0 < ((runV x5.2 x7.2).2.1).length := by omega
          refine Ex.know (row_some (i := 2) rfl) (fun hro9 => ?_)
          refine Ex.regSeq (ExL.pures 0 rfl ?_)
          refine ExL.op rfl (op_buildSlice (sz := 11) rfl rfl rfl rfl rfl rfl rfl rfl (by decide) rfl rfl rfl (fun r20 => ?_))
          refine ExL.pures 1 rfl ?_
          refine ExL.op rfl (op_append0 (sz := 11) (bytes := 32) (i := 0) rfl rfl rfl rfl (Reads.row (i := 3) rfl) (flat_len encN_len _) (fun e => absurd (hro9.2.2.2 hN0) (by rw [e]; simp)) (all_flat (fun _ => rfl) _) rfl rfl rfl (by constructor <;> first | omega | (unfold maxLen; omega)) rfl rfl (fun A21 cA21 => ?_))
          refine ExL.pures 1 rfl ?_
          refine ExL.nil ?_
          have hn9 := hJ.each kx19 (by omega)
          refine Ex.regSeq (ExL.pures 2 rfl ?_)
          refine ExL.free (fr_indexAddrR (sz := 11) 0 rfl rfl rfl rfl rfl rfl (by omega)) rfl rfl rfl ?_
          refine ExL.free (fr_fieldAddrR 0 rfl (by omega) rfl rfl rfl rfl rfl rfl) rfl rfl rfl ?_
          refine ExL.free (fr_load rfl rfl rfl rfl (by first | exact cellN (Reads.row (i := 0) rfl) encN_len zN 10 rfl (by omega) rfl | exact cellF (Reads.row (i := 0) rfl) encN_len zN 10 rfl (by omega) rfl)) rfl rfl rfl ?_
          refine ExL.free (by first | exact fr_add64 rfl rfl rfl (by omega) | exact fr_add rfl rfl rfl) rfl rfl rfl ?_
          refine ExL.free (fr_indexAddrR (sz := 11) 0 rfl rfl rfl rfl rfl rfl (by omega)) rfl rfl rfl ?_
          refine ExL.free (fr_fieldAddrR 0 rfl (by omega) rfl rfl rfl rfl rfl rfl) rfl rfl rfl ?_
          refine ExL.op rfl (op_storeRowF (i := 0) rfl rfl rfl rfl rfl rfl rfl rfl (room_at encN_len (k := kx19) (q := 10) (by omega) (by first | omega | (simp; omega) | (simp; done)) rfl) (List.cons_ne_nil _ _) rfl (bent_put (k := kx19) (by omega) (by first | rfl | omega | (simp; done) | (simp; omega)) rfl rfl) ?_)
          refine ExL.nil ?_
          have hfb := hJ.bent kx19 (by omega)
          have hfo := hfb.2
          have hbl := bent_len ((runV x5.2 x7.2).2.1) kx19
          rw [← hbl]
          refine Ex.regSeq (ExL.pures 0 rfl ?_)
          refine ExL.free (fr_loadN rfl rfl rfl rfl rfl (SegO.whole (i := 5) rfl)) rfl rfl rfl ?_
          refine ExL.pures 1 rfl ?_
          refine ExL.op rfl (op_ret rfl rfl rfl (c_iFirstWrong x5.2 (by assumption) _ _ (by first | assumption | exact (fun e => nomatch e)) (by omega) (bent ((runV x5.2 x7.2).2.1) kx19) (by assumption) _ _ (by omega)) (fun w hw => ⟨Reads.get (Reads.row (i := 6) rfl) w hw, Reads.get (Reads.row (i := 0) rfl) w hw⟩) rfl rfl (fun x23 hx23 => ?_))
          refine ExL.pures 5 rfl ?_
          refine ExL.nil ?_
          refine Ex.regSeq (ExL.pures 1 rfl ?_)
          refine ExL.free (fr_neq_f rfl rfl rfl (by rw [hfb.1]; exact fun h => h rfl)) rfl rfl rfl ?_
          refine ExL.pures 3 rfl ?_
          refine ExL.free (fr_neq_f rfl rfl rfl (by rw [hfb.1]; exact fun h => h rfl)) rfl rfl rfl ?_
          refine ExL.pures 1 rfl ?_
          refine ExL.nil ?_
          refine Ex.cond_f rfl ?_
          refine Ex.skip ?_
          refine Ex.regSeq (ExL.pures 1 rfl ?_)
          refine ExL.free (fr_load rfl rfl rfl rfl (CellO.blk (i := 5) rfl rfl)) rfl rfl rfl ?_
          refine ExL.op rfl (op_ret rfl rfl rfl (c_SizeOf x5.2.stack (by assumption) (by assumption) _ _) (Reads.get (Reads.row (i := 6) rfl)) rfl rfl (fun x24 hx24 => ?_))
          refine ExL.pures 5 rfl ?_
          refine ExL.nil ?_
          refine Ex.regSeq (ExL.pures 2 rfl ?_)
          refine ExL.free (by first | exact fr_sub64 rfl rfl rfl (by omega) | exact fr_sub rfl rfl rfl) rfl rfl rfl ?_
          refine ExL.free (fr_min rfl rfl rfl) rfl rfl rfl ?_
          refine ExL.op rfl (op_ret rfl rfl rfl (c_P6Pick t _ _ (by omega) (by assumption) (min ((size x5.2.stack) - 1) 50) (by omega)) (Reads.get (Reads.old ht)) rfl rfl (fun x25 hx25 => ?_))
          obtain ⟨kx25, hkx25⟩ : ∃ k : Nat, x25 = (k : Int) := ⟨x25.toNat, by omega⟩
          subst hkx25
          refine ExL.free (by first | exact fr_add64 rfl rfl rfl (by omega) | exact fr_add rfl rfl rfl) rfl rfl rfl ?_
          refine ExL.pures 1 rfl ?_
          refine ExL.nil ?_
          refine Ex.regSeq (ExL.pures 1 rfl ?_)
          refine ExL.op rfl (op_ret rfl rfl rfl (c_P6Pick s _ _ (by omega) (by assumption) 5 (by omega)) (Reads.get (Reads.old hs)) rfl rfl (fun x26 hx26 => ?_))
          obtain ⟨kx26, hkx26⟩ : ∃ k : Nat, x26 = (k : Int) := ⟨x26.toNat, by omega⟩
          subst hkx26
          refine ExL.pures 1 rfl ?_
          refine ExL.nil ?_
          obtain ⟨nn, hnn⟩ : ∃ n : Int, (1 + ↑kx25) = n := ⟨_, rfl⟩
          rw [hnn]
          obtain ⟨mm, hmm⟩ : ∃ n : Int, ((kx26 : Nat) : Int) = n := ⟨_, rfl⟩
          rw [hmm]
          have hB := btc (s := x5.2.stack) (n := nn) (m := mm) hE (by assumption) (by assumption) (by omega) (by omega)
          have hBd := hB.dev.1
          have hBv := hB.dev.2
          have hBs := hB.stk
          have hBt : E.stack.length = x5.2.stack.length := by rw [hBs]
          have hI1 : I64 nn := by unfold I64; omega
          have hI2 : I64 mm := by unfold I64; omega
          have hBl := hB.len
          have hBm := hB.many
          have hBk := hB.tick
          refine Ex.know (row_some (i := 2) rfl) (fun hroE => ?_)
          have hAE : x11.1 = none → x11.2 = 0 := fun e => by have h9 := hroE.2.2.2 (by omega); rw [e] at h9; cases h9
          have hBs1 : validStack E.stack = true := by rw [hBs]; assumption
          have hBs2 : Nums 255 E.stack := by rw [hBs]; assumption
          refine Ex.regSeq (ExL.pures 0 rfl ?_)
          refine ExL.free (fr_loadN rfl rfl rfl rfl rfl (SegO.whole (i := 1) rfl)) rfl rfl rfl ?_
          refine ExL.pures 2 rfl ?_
          refine ExL.op rfl (op_ret rfl rfl rfl (c_iBatchActs E (by first | exact hBd | assumption) _ _ (by omega) nn mm (by first | exact hI1 | assumption) (by first | exact hI2 | assumption)) (Reads.get (Reads.row (i := 2) rfl)) rfl rfl (fun x27 hx27 => ?_))
          refine ExL.pures 5 rfl ?_
          refine ExL.nil ?_
          refine Ex.regSeq (ExL.pures 0 rfl ?_)
          refine ExL.free (fr_loadN rfl rfl rfl rfl rfl (SegO.whole (i := 2) rfl)) rfl rfl rfl ?_
          refine ExL.pures 2 rfl ?_
          refine ExL.op rfl (op_ret rfl rfl rfl (c_sBatchActs E (by first | exact hBd | assumption) _ _ (by omega) nn mm (by first | exact hI1 | assumption) (by first | exact hI2 | assumption)) (Reads.get (Reads.row (i := 3) rfl)) rfl rfl (fun x28 hx28 => ?_))
          refine ExL.pures 5 rfl ?_
          refine ExL.nil ?_
          refine Ex.regSeq (ExL.pures 0 rfl ?_)
          refine ExL.free (fr_loadN rfl rfl rfl rfl rfl (SegO.whole (i := 3) rfl)) rfl rfl rfl ?_
          refine ExL.pures 1 rfl ?_
          refine ExL.op rfl (op_ret rfl rfl rfl (c_iTicketsOf E (by first | exact hBd | assumption) _ _ (by first | exact hAE | assumption | exact (fun e => nomatch e)) (by omega) ((batchV E nn mm).1) _ _ (by omega)) (fun w hw => ⟨Reads.get (Reads.row (i := 4) rfl) w hw, Reads.get (Reads.row (i := 0) rfl) w hw⟩) rfl rfl (fun x29 hx29 => ?_))
          refine ExL.pures 5 rfl ?_
          refine ExL.nil ?_
          refine Ex.regSeq (ExL.pures 0 rfl ?_)
          refine ExL.free (fr_loadN rfl rfl rfl rfl rfl (SegO.whole (i := 4) rfl)) rfl rfl rfl ?_
          refine ExL.pures 1 rfl ?_
          refine ExL.op rfl (op_ret rfl rfl rfl (c_iDoActs E (by first | exact hBd | assumption) _ _ (by first | exact hAE | assumption | exact (fun e => nomatch e)) (by omega) ((batchV E nn mm).1) _ _ (by omega)) (fun w hw => ⟨Reads.get (Reads.row (i := 5) rfl) w hw, Reads.get (Reads.row (i := 1) rfl) w hw⟩) rfl rfl (fun x30 hx30 => ?_))
          refine ExL.pures 4 rfl ?_
          refine ExL.op rfl (op_alloc rfl rfl rfl rfl rfl (fun b31 => ?_))
          refine ExL.op rfl (op_storeC (i := 0) rfl rfl rfl rfl rfl rfl rfl rfl rfl rfl ?_)
          refine ExL.pures 2 rfl ?_
          refine ExL.nil ?_
          refine Ex.seq ?_
          refine Ex.regSeq (ExL.pures 1 rfl ?_)
          refine ExL.free (fr_neq_f rfl rfl rfl (fun h => h rfl)) rfl rfl rfl ?_
          refine ExL.pures 3 rfl ?_
          refine ExL.free (fr_neq_f rfl rfl rfl (fun h => h rfl)) rfl rfl rfl ?_
          refine ExL.pures 3 rfl ?_
          refine ExL.free (fr_neq_f rfl rfl rfl (by rw [hB.two]; exact fun h => h rfl)) rfl rfl rfl ?_
          refine ExL.pures 4 rfl ?_
          refine ExL.op rfl (op_ret rfl rfl rfl (c_SameActs ((batchV E nn mm).1) _ _ (by omega) _ _) (fun w hw => ⟨Reads.get (Reads.row (i := 4) rfl) w hw, Reads.get (Reads.row (i := 3) rfl) w hw⟩) rfl rfl (fun x32 hx32 => ?_))
          refine ExL.pures 4 rfl ?_
          refine ExL.free (fr_neq_f rfl rfl rfl (by rw [hB.run]; exact fun h => h rfl)) rfl rfl rfl ?_
          refine ExL.pures 5 rfl ?_
          refine ExL.free (fr_neq_f rfl rfl rfl (by omega)) rfl rfl rfl ?_
          refine ExL.pures 3 rfl ?_
          refine ExL.free (fr_neq_f rfl rfl rfl (by rw [hB.run]; exact fun h => h rfl)) rfl rfl rfl ?_
          refine ExL.pures 3 rfl ?_
          refine ExL.free (fr_neq_f rfl rfl rfl (by rw [hB.lost]; exact fun h => h rfl)) rfl rfl rfl ?_
          refine ExL.pures 3 rfl ?_
          refine ExL.free (fr_load rfl rfl rfl rfl (CellO.blk (i := 0) rfl rfl)) rfl rfl rfl ?_
          refine ExL.pures 1 rfl ?_
          refine ExL.free (fr_neq_f rfl rfl rfl (by rw [hBk]; exact fun h => h rfl)) rfl rfl rfl ?_
          refine ExL.pures 1 rfl ?_
          refine ExL.nil ?_
          refine Ex.cond_f rfl ?_
          refine Ex.skip ?_
          refine Ex.seq ?_
          refine Ex.regSeq (ExL.pures 1 rfl ?_)
          refine ExL.nil ?_
          refine Ex.block ?_
          refine Ex.loopK (X := Nat) (fun k => [(33, .int .i64 k)]) (fun k => []) (fun k => k ≤ ((runV E ((batchV E nn mm).1)).2.2.1).length) (fun k => ((runV E ((batchV E nn mm).1)).2.2.1).length - k) 0 [(13, _), (22, _), (28, _)] [_, _, _] 12 [2, 6, 7] ⟨rfl, trivial⟩ ⟨rfl, rfl, rfl, trivial⟩ (rfl) rfl (Nat.zero_le _) (fun k hI => ?_)
          have hI : k ≤ ((runV E ((batchV E nn mm).1)).2.2.1).length := hI
          refine Ex.seq ?_
          refine Ex.regSeq (ExL.pures 3 rfl ?_)
          refine ExL.lss rfl rfl rfl rfl rfl rfl (fun h33 => ?_) (fun h33 => ?_)
          · refine ExL.nil ?_
            refine Ex.cond_t rfl ?_
            refine Ex.skip ?_
            refine Ex.seq ?_
            refine Ex.block ?_
            have hkl : k < ((runV E ((batchV E nn mm).1)).2.2.1).length := by omega
            have hbe0 := hB.each k hkl
            have hbe : validDig E.stack (((runV E ((batchV E nn mm).1)).2.2.1).getD k zT).shows.l = true ∧ Nums 255 (((runV E ((batchV E nn mm).1)).2.2.1).getD k zT).shows.l ∧ val E.stack (((runV E ((batchV E nn mm).1)).2.2.1).getD k zT).shows.l = nn := by rw [hBs]; exact hbe0
            refine Ex.drawSeqM rfl ?_
            refine ExD.take (i := 0) rfl (by kernel_rfl) (pureVal_ok rfl) ((List.Sublist.refl _)) rfl rfl rfl ?_
            refine ExD.take (i := 1) rfl (by kernel_rfl) (fr_load rfl rfl rfl rfl (CellO.blk (i := 1) rfl rfl)) ((List.Sublist.refl _)) rfl rfl rfl ?_
            refine ExD.take (i := 2) rfl (by kernel_rfl) (pureVal_ok rfl) ((List.Sublist.refl _)) rfl rfl rfl ?_
            refine ExD.take (i := 3) rfl (by kernel_rfl) (pureVal_ok rfl) ((List.Sublist.refl _)) rfl rfl rfl ?_
            refine ExD.take (i := 4) rfl (by kernel_rfl) (fr_indexAddrR (sz := 10) 0 rfl rfl rfl rfl rfl rfl (by omega)) ((List.Sublist.refl _)) rfl rfl rfl ?_
            refine ExD.take (i := 5) rfl (by kernel_rfl) (fr_fieldAddrR 0 rfl (by omega) rfl rfl rfl rfl rfl rfl) ((List.Sublist.refl _)) rfl rfl rfl ?_
            refine ExD.take (i := 6) rfl (by kernel_rfl) (fr_loadN rfl rfl rfl rfl rfl (by first | exact partN (Reads.row (i := 0) rfl) encT_len zT 1 8 rfl rfl (by omega) rfl | exact partF (Reads.row (i := 0) rfl) encT_len zT 1 8 rfl rfl (by omega) rfl)) ((List.Sublist.refl _)) rfl rfl rfl ?_
            refine ExD.op (i := 7) rfl (by kernel_rfl) rfl (op_ret rfl rfl rfl (c_ValueOf E.stack (by assumption) (by assumption) _ _ (((runV E ((batchV E nn mm).1)).2.2.1).getD k zT).shows (by first | assumption | exact hbe.1) (by first | assumption | exact hbe.2.1)) (Reads.get (Reads.row (i := 2) rfl)) rfl rfl (fun x34 hx34 => ⟨(List.Sublist.refl _), ?_⟩))
            refine ExD.take (i := 8) rfl (by kernel_rfl) (pureVal_ok rfl) ((List.Sublist.refl _)) rfl rfl rfl ?_
            refine ExD.take (i := 9) rfl (by kernel_rfl) (pureVal_ok rfl) ((List.Sublist.refl _)) rfl rfl rfl ?_
            refine ExD.take (i := 10) rfl (by kernel_rfl) (pureVal_ok rfl) ((List.Sublist.refl _)) rfl rfl rfl ?_
            refine ExD.take (i := 11) rfl (by kernel_rfl) (pureVal_ok rfl) ((List.Sublist.refl _)) rfl rfl rfl ?_
            refine ExD.take (i := 12) rfl (by kernel_rfl) (pureVal_ok rfl) ((List.Sublist.refl _)) rfl rfl rfl ?_
            refine ExD.done (by kernel_rfl) ?_
            refine Ex.regSeq (ExL.pures 1 rfl ?_)
            refine ExL.free (fr_neq_f rfl rfl rfl (fun h => h rfl)) rfl rfl rfl ?_
            refine ExL.pures 3 rfl ?_
            refine ExL.free (fr_neq_f rfl rfl rfl (by rw [hbe.2.2]; exact fun h => h rfl)) rfl rfl rfl ?_
            refine ExL.pures 1 rfl ?_
            refine ExL.nil ?_
            refine Ex.cond_f rfl ?_
            refine Ex.skip ?_
            refine Ex.region (ExL.pures 1 rfl ?_)
            refine ExL.free (by first | exact fr_add64 rfl rfl rfl (by omega) | exact fr_add rfl rfl rfl) rfl rfl rfl ?_
            refine ExL.pures 1 rfl ?_
            refine ExL.nil ?_
            refine Hand.mk (k + 1) 3 [0, 1, 2] ⟨rfl, trivial⟩ ⟨rfl, rfl, rfl, trivial⟩ (rfl) rfl (by omega) (by omega)
          · refine ExL.nil ?_
            refine Ex.cond_f rfl ?_
            refine Ex.exit ?_
            refine Ex.regSeq (ExL.pures 1 rfl ?_)
            refine ExL.nil ?_
            refine Ex.ret ?_
            refine RetQ.mk () rfl (.tmp rfl .nil) (rfl) [] (rfl) rfl (trivial)
        · refine ExL.nil ?_
          refine Ex.cond_f rfl ?_
          refine Ex.skip ?_
          refine Ex.regSeq (ExL.pures 1 rfl ?_)
          refine ExL.free (fr_load rfl rfl rfl rfl (CellO.blk (i := 4) rfl rfl)) rfl rfl rfl ?_
          refine ExL.op rfl (op_ret rfl rfl rfl (c_SizeOf x5.2.stack (by assumption) (by assumption) _ _) (Reads.get (Reads.row (i := 5) rfl)) rfl rfl (fun x35 hx35 => ?_))
          refine ExL.pures 5 rfl ?_
          refine ExL.nil ?_
          refine Ex.regSeq (ExL.pures 2 rfl ?_)
          refine ExL.free (by first | exact fr_sub64 rfl rfl rfl (by omega) | exact fr_sub rfl rfl rfl) rfl rfl rfl ?_
          refine ExL.free (fr_min rfl rfl rfl) rfl rfl rfl ?_
          refine ExL.op rfl (op_ret rfl rfl rfl (c_P6Pick t _ _ (by omega) (by assumption) (min ((size x5.2.stack) - 1) 50) (by omega)) (Reads.get (Reads.old ht)) rfl rfl (fun x36 hx36 => ?_))
          obtain ⟨kx36, hkx36⟩ : ∃ k : Nat, x36 = (k : Int) := ⟨x36.toNat, by omega⟩
          subst hkx36
          refine ExL.free (by first | exact fr_add64 rfl rfl rfl (by omega) | exact fr_add rfl rfl rfl) rfl rfl rfl ?_
          refine ExL.pures 1 rfl ?_
          refine ExL.nil ?_
          refine Ex.regSeq (ExL.pures 1 rfl ?_)
          refine ExL.op rfl (op_ret rfl rfl rfl (c_P6Pick s _ _ (by omega) (by assumption) 5 (by omega)) (Reads.get (Reads.old hs)) rfl rfl (fun x37 hx37 => ?_))
          obtain ⟨kx37, hkx37⟩ : ∃ k : Nat, x37 = (k : Int) := ⟨x37.toNat, by omega⟩
          subst hkx37
          refine ExL.pures 1 rfl ?_
          refine ExL.nil ?_
          obtain ⟨nn, hnn⟩ : ∃ n : Int, (1 + ↑kx36) = n := ⟨_, rfl⟩
          rw [hnn]
          obtain ⟨mm, hmm⟩ : ∃ n : Int, ((kx37 : Nat) : Int) = n := ⟨_, rfl⟩
          rw [hmm]
          have hB := btc (s := x5.2.stack) (n := nn) (m := mm) hE (by assumption) (by assumption) (by omega) (by omega)
          have hBd := hB.dev.1
          have hBv := hB.dev.2
          have hBs := hB.stk
          have hBt : E.stack.length = x5.2.stack.length := by rw [hBs]
          have hI1 : I64 nn := by unfold I64; omega
          have hI2 : I64 mm := by unfold I64; omega
          have hBl := hB.len
          have hBm := hB.many
          have hBk := hB.tick
          refine Ex.know (row_some (i := 1) rfl) (fun hroE => ?_)
          have hAE : x11.1 = none → x11.2 = 0 := fun e => by have h9 := hroE.2.2.2 (by omega); rw [e] at h9; cases h9
          have hBs1 : validStack E.stack = true := by rw [hBs]; assumption
          have hBs2 : Nums 255 E.stack := by rw [hBs]; assumption
          refine Ex.regSeq (ExL.pures 0 rfl ?_)
          refine ExL.free (fr_loadN rfl rfl rfl rfl rfl (SegO.whole (i := 0) rfl)) rfl rfl rfl ?_
          refine ExL.pures 2 rfl ?_
          refine ExL.op rfl (op_ret rfl rfl rfl (c_iBatchActs E (by first | exact hBd | assumption) _ _ (by omega) nn mm (by first | exact hI1 | assumption) (by first | exact hI2 | assumption)) (Reads.get (Reads.row (i := 1) rfl)) rfl rfl (fun x38 hx38 => ?_))
          refine ExL.pures 5 rfl ?_
          refine ExL.nil ?_
          refine Ex.regSeq (ExL.pures 0 rfl ?_)
          refine ExL.free (fr_loadN rfl rfl rfl rfl rfl (SegO.whole (i := 1) rfl)) rfl rfl rfl ?_
          refine ExL.pures 2 rfl ?_
          refine ExL.op rfl (op_ret rfl rfl rfl (c_sBatchActs E (by first | exact hBd | assumption) _ _ (by omega) nn mm (by first | exact hI1 | assumption) (by first | exact hI2 | assumption)) (Reads.get (Reads.row (i := 2) rfl)) rfl rfl (fun x39 hx39 => ?_))
          refine ExL.pures 5 rfl ?_
          refine ExL.nil ?_
          refine Ex.regSeq (ExL.pures 0 rfl ?_)
          refine ExL.free (fr_loadN rfl rfl rfl rfl rfl (SegO.whole (i := 2) rfl)) rfl rfl rfl ?_
          refine ExL.pures 1 rfl ?_
          refine ExL.op rfl (op_ret rfl rfl rfl (c_iTicketsOf E (by first | exact hBd | assumption) _ _ (by first | exact hAE | assumption | exact (fun e => nomatch e)) (by omega) ((batchV E nn mm).1) _ _ (by omega)) (fun w hw => ⟨Reads.get (Reads.row (i := 3) rfl) w hw, Reads.get (Reads.row (i := 0) rfl) w hw⟩) rfl rfl (fun x40 hx40 => ?_))
          refine ExL.pures 5 rfl ?_
          refine ExL.nil ?_
          refine Ex.regSeq (ExL.pures 0 rfl ?_)
          refine ExL.free (fr_loadN rfl rfl rfl rfl rfl (SegO.whole (i := 3) rfl)) rfl rfl rfl ?_
          refine ExL.pures 1 rfl ?_
          refine ExL.op rfl (op_ret rfl rfl rfl (c_iDoActs E (by first | exact hBd | assumption) _ _ (by first | exact hAE | assumption | exact (fun e => nomatch e)) (by omega) ((batchV E nn mm).1) _ _ (by omega)) (fun w hw => ⟨Reads.get (Reads.row (i := 4) rfl) w hw, Reads.get (Reads.row (i := 1) rfl) w hw⟩) rfl rfl (fun x41 hx41 => ?_))
          refine ExL.pures 4 rfl ?_
          refine ExL.op rfl (op_alloc rfl rfl rfl rfl rfl (fun b42 => ?_))
          refine ExL.op rfl (op_storeC (i := 0) rfl rfl rfl rfl rfl rfl rfl rfl rfl rfl ?_)
          refine ExL.pures 2 rfl ?_
          refine ExL.nil ?_
          refine Ex.seq ?_
          refine Ex.regSeq (ExL.pures 1 rfl ?_)
          refine ExL.free (fr_neq_f rfl rfl rfl (fun h => h rfl)) rfl rfl rfl ?_
          refine ExL.pures 3 rfl ?_
          refine ExL.free (fr_neq_f rfl rfl rfl (fun h => h rfl)) rfl rfl rfl ?_
          refine ExL.pures 3 rfl ?_
          refine ExL.free (fr_neq_f rfl rfl rfl (by rw [hB.two]; exact fun h => h rfl)) rfl rfl rfl ?_
          refine ExL.pures 4 rfl ?_
          refine ExL.op rfl (op_ret rfl rfl rfl (c_SameActs ((batchV E nn mm).1) _ _ (by omega) _ _) (fun w hw => ⟨Reads.get (Reads.row (i := 4) rfl) w hw, Reads.get (Reads.row (i := 3) rfl) w hw⟩) rfl rfl (fun x43 hx43 => ?_))
          refine ExL.pures 4 rfl ?_
          refine ExL.free (fr_neq_f rfl rfl rfl (by rw [hB.run]; exact fun h => h rfl)) rfl rfl rfl ?_
          refine ExL.pures 5 rfl ?_
          refine ExL.free (fr_neq_f rfl rfl rfl (by omega)) rfl rfl rfl ?_
          refine ExL.pures 3 rfl ?_
          refine ExL.free (fr_neq_f rfl rfl rfl (by rw [hB.run]; exact fun h => h rfl)) rfl rfl rfl ?_
          refine ExL.pures 3 rfl ?_
          refine ExL.free (fr_neq_f rfl rfl rfl (by rw [hB.lost]; exact fun h => h rfl)) rfl rfl rfl ?_
          refine ExL.pures 3 rfl ?_
          refine ExL.free (fr_load rfl rfl rfl rfl (CellO.blk (i := 0) rfl rfl)) rfl rfl rfl ?_
          refine ExL.pures 1 rfl ?_
          refine ExL.free (fr_neq_f rfl rfl rfl (by rw [hBk]; exact fun h => h rfl)) rfl rfl rfl ?_
          refine ExL.pures 1 rfl ?_
          refine ExL.nil ?_
          refine Ex.cond_f rfl ?_
          refine Ex.skip ?_
          refine Ex.seq ?_
          refine Ex.regSeq (ExL.pures 1 rfl ?_)
          refine ExL.nil ?_
          refine Ex.block ?_
          refine Ex.loopK (X := Nat) (fun k => [(33, .int .i64 k)]) (fun k => []) (fun k => k ≤ ((runV E ((batchV E nn mm).1)).2.2.1).length) (fun k => ((runV E ((batchV E nn mm).1)).2.2.1).length - k) 0 [(13, _), (22, _), (28, _)] [_, _, _] 11 [2, 5, 6] ⟨rfl, trivial⟩ ⟨rfl, rfl, rfl, trivial⟩ (rfl) rfl (Nat.zero_le _) (fun k hI => ?_)
          have hI : k ≤ ((runV E ((batchV E nn mm).1)).2.2.1).length := hI
          refine Ex.seq ?_
          refine Ex.regSeq (ExL.pures 3 rfl ?_)
          refine ExL.lss rfl rfl rfl rfl rfl rfl (fun h44 => ?_) (fun h44 => ?_)
          · refine ExL.nil ?_
            refine Ex.cond_t rfl ?_
            refine Ex.skip ?_
            refine Ex.seq ?_
            refine Ex.block ?_
            have hkl : k < ((runV E ((batchV E nn mm).1)).2.2.1).length := by omega
            have hbe0 := hB.each k hkl
            have hbe : validDig E.stack (((runV E ((batchV E nn mm).1)).2.2.1).getD k zT).shows.l = true ∧ Nums 255 (((runV E ((batchV E nn mm).1)).2.2.1).getD k zT).shows.l ∧ val E.stack (((runV E ((batchV E nn mm).1)).2.2.1).getD k zT).shows.l = nn := by rw [hBs]; exact hbe0
            refine Ex.drawSeqM rfl ?_
            refine ExD.take (i := 0) rfl (by kernel_rfl) (pureVal_ok rfl) ((List.Sublist.refl _)) rfl rfl rfl ?_
            refine ExD.take (i := 1) rfl (by kernel_rfl) (fr_load rfl rfl rfl rfl (CellO.blk (i := 1) rfl rfl)) ((List.Sublist.refl _)) rfl rfl rfl ?_
            refine ExD.take (i := 2) rfl (by kernel_rfl) (pureVal_ok rfl) ((List.Sublist.refl _)) rfl rfl rfl ?_
            refine ExD.take (i := 3) rfl (by kernel_rfl) (pureVal_ok rfl) ((List.Sublist.refl _)) rfl rfl rfl ?_
            refine ExD.take (i := 4) rfl (by kernel_rfl) (fr_indexAddrR (sz := 10) 0 rfl rfl rfl rfl rfl rfl (by omega)) ((List.Sublist.refl _)) rfl rfl rfl ?_
            refine ExD.take (i := 5) rfl (by kernel_rfl) (fr_fieldAddrR 0 rfl (by omega) rfl rfl rfl rfl rfl rfl) ((List.Sublist.refl _)) rfl rfl rfl ?_
            refine ExD.take (i := 6) rfl (by kernel_rfl) (fr_loadN rfl rfl rfl rfl rfl (by first | exact partN (Reads.row (i := 0) rfl) encT_len zT 1 8 rfl rfl (by omega) rfl | exact partF (Reads.row (i := 0) rfl) encT_len zT 1 8 rfl rfl (by omega) rfl)) ((List.Sublist.refl _)) rfl rfl rfl ?_
            refine ExD.op (i := 7) rfl (by kernel_rfl) rfl (op_ret rfl rfl rfl (c_ValueOf E.stack (by assumption) (by assumption) _ _ (((runV E ((batchV E nn mm).1)).2.2.1).getD k zT).shows (by first | assumption | exact hbe.1) (by first | assumption | exact hbe.2.1)) (Reads.get (Reads.row (i := 2) rfl)) rfl rfl (fun x45 hx45 => ⟨(List.Sublist.refl _), ?_⟩))
            refine ExD.take (i := 8) rfl (by kernel_rfl) (pureVal_ok rfl) ((List.Sublist.refl _)) rfl rfl rfl ?_
            refine ExD.take (i := 9) rfl (by kernel_rfl) (pureVal_ok rfl) ((List.Sublist.refl _)) rfl rfl rfl ?_
            refine ExD.take (i := 10) rfl (by kernel_rfl) (pureVal_ok rfl) ((List.Sublist.refl _)) rfl rfl rfl ?_
            refine ExD.take (i := 11) rfl (by kernel_rfl) (pureVal_ok rfl) ((List.Sublist.refl _)) rfl rfl rfl ?_
            refine ExD.take (i := 12) rfl (by kernel_rfl) (pureVal_ok rfl) ((List.Sublist.refl _)) rfl rfl rfl ?_
            refine ExD.done (by kernel_rfl) ?_
            refine Ex.regSeq (ExL.pures 1 rfl ?_)
            refine ExL.free (fr_neq_f rfl rfl rfl (fun h => h rfl)) rfl rfl rfl ?_
            refine ExL.pures 3 rfl ?_
            refine ExL.free (fr_neq_f rfl rfl rfl (by rw [hbe.2.2]; exact fun h => h rfl)) rfl rfl rfl ?_
            refine ExL.pures 1 rfl ?_
            refine ExL.nil ?_
            refine Ex.cond_f rfl ?_
            refine Ex.skip ?_
            refine Ex.region (ExL.pures 1 rfl ?_)
            refine ExL.free (by first | exact fr_add64 rfl rfl rfl (by omega) | exact fr_add rfl rfl rfl) rfl rfl rfl ?_
            refine ExL.pures 1 rfl ?_
            refine ExL.nil ?_
            refine Hand.mk (k + 1) 3 [0, 1, 2] ⟨rfl, trivial⟩ ⟨rfl, rfl, rfl, trivial⟩ (rfl) rfl (by omega) (by omega)
          · refine ExL.nil ?_
            refine Ex.cond_f rfl ?_
            refine Ex.exit ?_
            refine Ex.regSeq (ExL.pures 1 rfl ?_)
            refine ExL.nil ?_
            refine Ex.ret ?_
            refine RetQ.mk () rfl (.tmp rfl .nil) (rfl) [] (rfl) rfl (trivial)
end Go.Proofs.Ythocfcgiikobkaa
