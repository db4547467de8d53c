/- Several texts, one behind the other. -/
import Derived.Test.YthabjnhfhmbamaaGreatDoorProg
import Derived.Test.YthabjnhfhmbamaaGreatDoorXaa
import Derived.Test.YthabjnhfhmbamaaGreatDoorXab
import Derived.Test.YthabjnhfhmbamaaGreatDoorXac
import Derived.Test.YthabjnhfhmbamaaGreatDoorXba
import Derived.Test.YthabjnhfhmbamaaGreatDoorXbb
import Derived.Test.YthabjnhfhmbamaaGreatDoorXbc
/- What these functions of the program hand back, each proved by walking its operations. -/
set_option linter.unusedVariables false
set_option linter.unusedSimpArgs false
set_option maxRecDepth 4000
namespace Go.Proofs.YthabjnhfhmbamaaGreatDoor
open Go Go.Sx Go.RowKit Go.W Go.Proofs
attribute [local irreducible] Ex ExL ExD Op1 Free RetQ MutQ Reads CellO SegO LoadsAs
theorem e_60 : Enters Tryz.prog 60 := Enters.of Tryz.func60 rfl
theorem c_next (code : List Int) (Ac : Option Addr) (cc : Nat) (hcl : code.length ≤ maxLen) (hcu : Nums 255 code) (b : Nat) (at_ sd : Int) (hat : 0 ≤ at_ ∧ at_ ≤ 2000000000) : Mut Tryz.prog 60 [.pointer (some ⟨b, 0, none⟩)] [.blk b [.slice Ac code.length cc, .int .i64 at_, .int .u64 sd] 101] (fun base w0 F => RdB base w0 Ac (code.flatMap (eI .u8))) (fun x : Int × Int => .int .i64 x.1) (fun x => [.blk b [.slice Ac code.length cc, .int .i64 (at_ + 1), .int .u64 x.2] 101]) (fun x => 0 ≤ x.1 ∧ x.1 ≤ 255) := by
  refine Mut.of e_60 Tryz.func60 rfl Tryz.ntmps60 rfl rfl (fun base w0 F hfr => ?_)
  have hcode := hfr
  have hx := hcu.at_ (by omega) at_.toNat
  have hm0 : maxLen = 9223372036854775807 := rfl
  refine Ex.regSeq (ExL.pures 1 rfl ?_)
  refine ExL.nil ?_
  refine Ex.regSeq (ExL.pures 1 rfl ?_)
  refine ExL.nil ?_
  refine Ex.seq ?_
  refine Ex.drawSeqM rfl ?_
  refine ExD.take (i := 0) rfl (by kernel_rfl) (pureVal_ok rfl) ((List.Sublist.refl _)) rfl rfl rfl ?_
  refine ExD.take (i := 1) rfl (by kernel_rfl) (pureVal_ok rfl) ((List.Sublist.refl _)) rfl rfl rfl ?_
  refine ExD.take (i := 2) rfl (by kernel_rfl) (pureVal_ok rfl) ((List.Sublist.refl _)) rfl rfl rfl ?_
  refine ExD.take (i := 3) rfl (by kernel_rfl) (fr_load rfl rfl rfl rfl (CellO.blk (i := 0) rfl rfl)) ((List.Sublist.refl _)) rfl rfl rfl ?_
  refine ExD.take (i := 4) rfl (by kernel_rfl) (pureVal_ok rfl) ((List.Sublist.refl _)) rfl rfl rfl ?_
  refine ExD.take (i := 5) rfl (by kernel_rfl) (pureVal_ok rfl) ((List.Sublist.refl _)) rfl rfl rfl ?_
  refine ExD.take (i := 6) rfl (by kernel_rfl) (pureVal_ok rfl) ((List.Sublist.refl _)) rfl rfl rfl ?_
  refine ExD.take (i := 7) rfl (by kernel_rfl) (fr_load rfl rfl rfl rfl (CellO.blk (i := 0) rfl rfl)) ((List.Sublist.refl _)) rfl rfl rfl ?_
  refine ExD.take (i := 8) rfl (by kernel_rfl) (pureVal_ok rfl) ((List.Sublist.refl _)) rfl rfl rfl ?_
  refine ExD.cmp_lss (i := 9) rfl (by kernel_rfl) rfl rfl rfl ((List.Sublist.refl _)) rfl rfl rfl (fun h1 => ?_) (fun h1 => ?_)
  · refine ExD.done (by kernel_rfl) ?_
    refine Ex.cond_t rfl ?_
    refine Ex.drawM rfl ?_
    refine ExD.take (i := 0) rfl (by kernel_rfl) (pureVal_ok rfl) ((List.Sublist.refl _)) rfl rfl rfl ?_
    refine ExD.take (i := 1) rfl (by kernel_rfl) (pureVal_ok rfl) ((List.Sublist.refl _)) rfl rfl rfl ?_
    refine ExD.take (i := 2) rfl (by kernel_rfl) (pureVal_ok rfl) ((List.Sublist.refl _)) rfl rfl rfl ?_
    refine ExD.take (i := 3) rfl (by kernel_rfl) (fr_load rfl rfl rfl rfl (CellO.blk (i := 0) rfl rfl)) ((List.Sublist.refl _)) rfl rfl rfl ?_
    refine ExD.take (i := 4) rfl (by kernel_rfl) (pureVal_ok rfl) ((List.Sublist.refl _)) rfl rfl rfl ?_
    refine ExD.take (i := 5) rfl (by kernel_rfl) (pureVal_ok rfl) ((List.Sublist.refl _)) rfl rfl rfl ?_
    refine ExD.take (i := 6) rfl (by kernel_rfl) (pureVal_ok rfl) ((List.Sublist.refl _)) rfl rfl rfl ?_
    refine ExD.take (i := 7) rfl (by kernel_rfl) (fr_load rfl rfl rfl rfl (CellO.blk (i := 0) rfl rfl)) ((List.Sublist.refl _)) rfl rfl rfl ?_
    refine ExD.take (i := 8) rfl (by kernel_rfl) (fr_indexAddrF (Reads.old hcode) (eI_len .u8) rfl rfl rfl rfl rfl rfl (by omega)) ((List.Sublist.refl _)) rfl rfl rfl ?_
    refine ExD.take (i := 9) rfl (by kernel_rfl) (fr_load rfl rfl rfl rfl (by first | exact cellN (Reads.old hcode) (eI_len .u8) 0 0 rfl (by omega) rfl | exact cellF (Reads.old hcode) (eI_len .u8) 0 0 rfl (by omega) rfl)) ((List.Sublist.refl _)) rfl rfl rfl ?_
    refine ExD.take (i := 10) rfl (by kernel_rfl) (by first | exact fr_conv64 rfl rfl rfl rfl (by omega) | exact fr_conv rfl rfl rfl rfl) ((List.Sublist.refl _)) rfl rfl rfl ?_
    refine ExD.take (i := 11) rfl (by kernel_rfl) (pureVal_ok rfl) ((List.Sublist.refl _)) rfl rfl rfl ?_
    refine ExD.done (by kernel_rfl) ?_
    refine Ex.regSeq (ExL.pures 3 rfl ?_)
    refine ExL.free (fr_load rfl rfl rfl rfl (CellO.blk (i := 0) rfl rfl)) rfl rfl rfl ?_
    refine ExL.free (by first | exact fr_add64 rfl rfl rfl (by omega) | exact fr_add rfl rfl rfl) rfl rfl rfl ?_
    refine ExL.pures 2 rfl ?_
    refine ExL.op rfl (op_storeC (i := 0) rfl rfl rfl rfl rfl rfl rfl rfl rfl rfl ?_)
    refine ExL.nil ?_
    refine Ex.regSeq (ExL.pures 4 rfl ?_)
    refine ExL.free (fr_load rfl rfl rfl rfl (CellO.blk (i := 0) rfl rfl)) rfl rfl rfl ?_
    refine ExL.free (fr_mul rfl rfl rfl) rfl rfl rfl ?_
    refine ExL.pures 1 rfl ?_
    refine ExL.free (by first | exact fr_conv_u64 rfl rfl rfl rfl (by omega) | exact fr_conv rfl rfl rfl rfl) rfl rfl rfl ?_
    refine ExL.free (fr_add rfl rfl rfl) rfl rfl rfl ?_
    refine ExL.free (fr_add rfl rfl rfl) rfl rfl rfl ?_
    refine ExL.pures 2 rfl ?_
    refine ExL.op rfl (op_storeC (i := 0) rfl rfl rfl rfl rfl rfl rfl rfl rfl rfl ?_)
    refine ExL.nil ?_
    refine Ex.seq ?_
    refine Ex.drawSeqM rfl ?_
    refine ExD.take (i := 0) rfl (by kernel_rfl) (pureVal_ok rfl) ((List.Sublist.refl _)) rfl rfl rfl ?_
    refine ExD.take (i := 1) rfl (by kernel_rfl) (pureVal_ok rfl) ((List.Sublist.refl _)) rfl rfl rfl ?_
    refine ExD.take (i := 2) rfl (by kernel_rfl) (pureVal_ok rfl) ((List.Sublist.refl _)) rfl rfl rfl ?_
    refine ExD.take (i := 3) rfl (by kernel_rfl) (fr_load rfl rfl rfl rfl (CellO.blk (i := 0) rfl rfl)) ((List.Sublist.refl _)) rfl rfl rfl ?_
    refine ExD.take (i := 4) rfl (by kernel_rfl) (pureVal_ok rfl) ((List.Sublist.refl _)) rfl rfl rfl ?_
    refine ExD.take (i := 5) rfl (by kernel_rfl) (pureVal_ok rfl) ((List.Sublist.refl _)) rfl rfl rfl ?_
    refine ExD.take (i := 6) rfl (by kernel_rfl) (pureVal_ok rfl) ((List.Sublist.refl _)) rfl rfl rfl ?_
    refine ExD.take (i := 7) rfl (by kernel_rfl) (fr_load rfl rfl rfl rfl (CellO.blk (i := 0) rfl rfl)) ((List.Sublist.refl _)) rfl rfl rfl ?_
    refine ExD.take (i := 8) rfl (by kernel_rfl) (pureVal_ok rfl) ((List.Sublist.refl _)) rfl rfl rfl ?_
    refine ExD.cmp_leq (i := 9) rfl (by kernel_rfl) rfl rfl rfl ((List.Sublist.refl _)) rfl rfl rfl (fun h2 => ?_) (fun h2 => ?_)
    · refine ExD.done (by kernel_rfl) ?_
      refine Ex.cond_t rfl ?_
      refine Ex.regSeq (ExL.pures 2 rfl ?_)
      refine ExL.nil ?_
      refine Ex.ret ?_
      refine MutQ.mk (_, _) rfl (.tmp rfl .nil) (rfl) 1 [0] (rfl) rfl (by refine ⟨?_, ?_⟩ <;> first | exact hx.1 | exact hx.2 | (dsimp only; omega))
    · refine ExD.done (by kernel_rfl) ?_
      refine Ex.cond_f rfl ?_
      refine Ex.skip ?_
      refine Ex.regSeq (ExL.pures 3 rfl ?_)
      refine ExL.free (fr_load rfl rfl rfl rfl (CellO.blk (i := 0) rfl rfl)) rfl rfl rfl ?_
      refine ExL.free (fr_shr40 rfl rfl rfl) rfl rfl rfl ?_
      refine ExL.free (fr_and255w rfl rfl rfl) rfl rfl rfl ?_
      refine ExL.free (by first | exact fr_conv64 rfl rfl rfl rfl (by omega) | exact fr_conv rfl rfl rfl rfl) rfl rfl rfl ?_
      refine ExL.pures 1 rfl ?_
      refine ExL.nil ?_
      refine Ex.ret ?_
      refine MutQ.mk (_, _) rfl (.tmp rfl .nil) (rfl) 1 [0] (rfl) rfl (by refine ⟨?_, ?_⟩ <;> first | exact hx.1 | exact hx.2 | (dsimp only; omega))
  · refine ExD.done (by kernel_rfl) ?_
    refine Ex.cond_f rfl ?_
    refine Ex.skip ?_
    refine Ex.regSeq (ExL.pures 3 rfl ?_)
    refine ExL.free (fr_load rfl rfl rfl rfl (CellO.blk (i := 0) rfl rfl)) rfl rfl rfl ?_
    refine ExL.free (by first | exact fr_add64 rfl rfl rfl (by omega) | exact fr_add rfl rfl rfl) rfl rfl rfl ?_
    refine ExL.pures 2 rfl ?_
    refine ExL.op rfl (op_storeC (i := 0) rfl rfl rfl rfl rfl rfl rfl rfl rfl rfl ?_)
    refine ExL.nil ?_
    refine Ex.regSeq (ExL.pures 4 rfl ?_)
    refine ExL.free (fr_load rfl rfl rfl rfl (CellO.blk (i := 0) rfl rfl)) rfl rfl rfl ?_
    refine ExL.free (fr_mul rfl rfl rfl) rfl rfl rfl ?_
    refine ExL.pures 1 rfl ?_
    refine ExL.free (by first | exact fr_conv_u64 rfl rfl rfl rfl (by omega) | exact fr_conv rfl rfl rfl rfl) rfl rfl rfl ?_
    refine ExL.free (fr_add rfl rfl rfl) rfl rfl rfl ?_
    refine ExL.free (fr_add rfl rfl rfl) rfl rfl rfl ?_
    refine ExL.pures 2 rfl ?_
    refine ExL.op rfl (op_storeC (i := 0) rfl rfl rfl rfl rfl rfl rfl rfl rfl rfl ?_)
    refine ExL.nil ?_
    refine Ex.seq ?_
    refine Ex.drawSeqM rfl ?_
    refine ExD.take (i := 0) rfl (by kernel_rfl) (pureVal_ok rfl) ((List.Sublist.refl _)) rfl rfl rfl ?_
    refine ExD.take (i := 1) rfl (by kernel_rfl) (pureVal_ok rfl) ((List.Sublist.refl _)) rfl rfl rfl ?_
    refine ExD.take (i := 2) rfl (by kernel_rfl) (pureVal_ok rfl) ((List.Sublist.refl _)) rfl rfl rfl ?_
    refine ExD.take (i := 3) rfl (by kernel_rfl) (fr_load rfl rfl rfl rfl (CellO.blk (i := 0) rfl rfl)) ((List.Sublist.refl _)) rfl rfl rfl ?_
    refine ExD.take (i := 4) rfl (by kernel_rfl) (pureVal_ok rfl) ((List.Sublist.refl _)) rfl rfl rfl ?_
    refine ExD.take (i := 5) rfl (by kernel_rfl) (pureVal_ok rfl) ((List.Sublist.refl _)) rfl rfl rfl ?_
    refine ExD.take (i := 6) rfl (by kernel_rfl) (pureVal_ok rfl) ((List.Sublist.refl _)) rfl rfl rfl ?_
    refine ExD.take (i := 7) rfl (by kernel_rfl) (fr_load rfl rfl rfl rfl (CellO.blk (i := 0) rfl rfl)) ((List.Sublist.refl _)) rfl rfl rfl ?_
    refine ExD.take (i := 8) rfl (by kernel_rfl) (pureVal_ok rfl) ((List.Sublist.refl _)) rfl rfl rfl ?_
    refine ExD.cmp_leq (i := 9) rfl (by kernel_rfl) rfl rfl rfl ((List.Sublist.refl _)) rfl rfl rfl (fun h3 => ?_) (fun h3 => ?_)
    · refine ExD.done (by kernel_rfl) ?_
      refine Ex.cond_t rfl ?_
      refine Ex.regSeq (ExL.pures 2 rfl ?_)
      refine ExL.nil ?_
      refine Ex.ret ?_
      refine MutQ.mk (_, _) rfl (.tmp rfl .nil) (rfl) 1 [0] (rfl) rfl (by refine ⟨?_, ?_⟩ <;> first | exact hx.1 | exact hx.2 | (dsimp only; omega))
    · refine ExD.done (by kernel_rfl) ?_
      refine Ex.cond_f rfl ?_
      refine Ex.skip ?_
      refine Ex.regSeq (ExL.pures 3 rfl ?_)
      refine ExL.free (fr_load rfl rfl rfl rfl (CellO.blk (i := 0) rfl rfl)) rfl rfl rfl ?_
      refine ExL.free (fr_shr40 rfl rfl rfl) rfl rfl rfl ?_
      refine ExL.free (fr_and255w rfl rfl rfl) rfl rfl rfl ?_
      refine ExL.free (by first | exact fr_conv64 rfl rfl rfl rfl (by omega) | exact fr_conv rfl rfl rfl rfl) rfl rfl rfl ?_
      refine ExL.pures 1 rfl ?_
      refine ExL.nil ?_
      refine Ex.ret ?_
      refine MutQ.mk (_, _) rfl (.tmp rfl .nil) (rfl) 1 [0] (rfl) rfl (by refine ⟨?_, ?_⟩ <;> first | exact hx.1 | exact hx.2 | (dsimp only; omega))
theorem e_26 : Enters Tryz.prog 26 := Enters.of Tryz.func26 rfl
theorem c_pick (code : List Int) (Ac : Option Addr) (cc : Nat) (hcl : code.length ≤ maxLen) (hcu : Nums 255 code) (b : Nat) (at_ sd : Int) (hat : 0 ≤ at_ ∧ at_ ≤ 1000000000) (n : Int) (hn : n ≤ 9223372036854775807) : Mut Tryz.prog 26 [.pointer (some ⟨b, 0, none⟩), .int .i64 n] [.blk b [.slice Ac code.length cc, .int .i64 at_, .int .u64 sd] 101] (fun base w0 F => RdB base w0 Ac (code.flatMap (eI .u8))) (fun x : Int × Int × Int => .int .i64 x.1) (fun x => [.blk b [.slice Ac code.length cc, .int .i64 x.2.1, .int .u64 x.2.2] 101]) (fun x => 0 ≤ x.1 ∧ (x.1 < n ∨ x.1 = 0) ∧ at_ ≤ x.2.1 ∧ x.2.1 ≤ at_ + 2 ∧ x.1 ≤ 65535) := by
  refine Mut.of e_26 Tryz.func26 rfl Tryz.ntmps26 rfl rfl (fun base w0 F hfr => ?_)
  have hcode := hfr
  have hm0 : maxLen = 9223372036854775807 := rfl
  refine Ex.regSeq (ExL.pures 1 rfl ?_)
  refine ExL.nil ?_
  refine Ex.seq ?_
  refine Ex.regSeq (ExL.pures 1 rfl ?_)
  refine ExL.leq rfl rfl rfl rfl rfl rfl (fun h1 => ?_) (fun h1 => ?_)
  · refine ExL.nil ?_
    refine Ex.cond_t rfl ?_
    refine Ex.regSeq (ExL.pures 1 rfl ?_)
    refine ExL.nil ?_
    refine Ex.ret ?_
    refine MutQ.mk (_, _, _) rfl (.tmp rfl .nil) (rfl) 1 [0] (rfl) rfl (by refine ⟨?_, ?_, ?_, ?_, ?_⟩ <;> first | exact hm1 _ | exact .inl (hm2 _) | (dsimp only; omega) | (refine Int.le_trans (hm3 _ ?_) ?_ <;> omega))
  · refine ExL.nil ?_
    refine Ex.cond_f rfl ?_
    refine Ex.skip ?_
    refine Ex.regSeq (ExL.pures 1 rfl ?_)
    refine ExL.op rfl (op_mut rfl rfl rfl (c_next code _ _ (by omega) (by assumption) _ at_ _ (by omega)) (perm_at (i := 0) rfl) (hcode) rfl rfl (fun x2 hx2 => ?_))
    refine ExL.pures 1 rfl ?_
    refine ExL.nil ?_
    refine Ex.seq ?_
    refine Ex.regSeq (ExL.pures 1 rfl ?_)
    refine ExL.gtr rfl rfl rfl rfl rfl rfl (fun h3 => ?_) (fun h3 => ?_)
    · refine ExL.nil ?_
      refine Ex.cond_t rfl ?_
      refine Ex.region (ExL.pures 1 rfl ?_)
      refine ExL.free (by first | exact fr_mul64 rfl rfl rfl (by omega) | exact fr_mul rfl rfl rfl) rfl rfl rfl ?_
      refine ExL.pures 1 rfl ?_
      refine ExL.op rfl (op_mut rfl rfl rfl (c_next code _ _ (by omega) (by assumption) _ (at_ + 1) _ (by omega)) (perm_at (i := 0) rfl) (hcode) rfl rfl (fun x4 hx4 => ?_))
      refine ExL.free (by first | exact fr_add64 rfl rfl rfl (by omega) | exact fr_add rfl rfl rfl) rfl rfl rfl ?_
      refine ExL.pures 1 rfl ?_
      refine ExL.nil ?_
      have hm1 := fun z => Int.emod_nonneg z (show n ≠ 0 by omega)
      have hm2 := fun z => Int.emod_lt_of_pos z (show 0 < n by omega)
      have hm3 := fun z hz => mod_le (z := z) (n := n) hz (by omega)
      refine Ex.regSeq (ExL.pures 2 rfl ?_)
      refine ExL.free (by first | exact fr_remP rfl rfl rfl (by omega) | exact fr_rem rfl rfl rfl (by omega)) rfl rfl rfl ?_
      refine ExL.pures 1 rfl ?_
      refine ExL.nil ?_
      refine Ex.ret ?_
      refine MutQ.mk (_, _, _) rfl (.tmp rfl .nil) (rfl) 1 [0] (rfl) rfl (by refine ⟨?_, ?_, ?_, ?_, ?_⟩ <;> first | exact hm1 _ | exact .inl (hm2 _) | (dsimp only; omega) | (refine Int.le_trans (hm3 _ ?_) ?_ <;> omega))
    · refine ExL.nil ?_
      refine Ex.cond_f rfl ?_
      refine Ex.skip ?_
      have hm1 := fun z => Int.emod_nonneg z (show n ≠ 0 by omega)
      have hm2 := fun z => Int.emod_lt_of_pos z (show 0 < n by omega)
      have hm3 := fun z hz => mod_le (z := z) (n := n) hz (by omega)
      refine Ex.regSeq (ExL.pures 2 rfl ?_)
      refine ExL.free (by first | exact fr_remP rfl rfl rfl (by omega) | exact fr_rem rfl rfl rfl (by omega)) rfl rfl rfl ?_
      refine ExL.pures 1 rfl ?_
      refine ExL.nil ?_
      refine Ex.ret ?_
      refine MutQ.mk (_, _, _) rfl (.tmp rfl .nil) (rfl) 1 [0] (rfl) rfl (by refine ⟨?_, ?_, ?_, ?_, ?_⟩ <;> first | exact hm1 _ | exact .inl (hm2 _) | (dsimp only; omega) | (refine Int.le_trans (hm3 _ ?_) ?_ <;> omega))
end Go.Proofs.YthabjnhfhmbamaaGreatDoor

/- What these functions of the program hand back, each proved by walking its operations. -/
set_option linter.unusedVariables false
set_option linter.unusedSimpArgs false
set_option maxRecDepth 4000
namespace Go.Proofs.YthabjnhfhmbamaaGreatDoor
open Go Go.Sx Go.RowKit Go.W Go.Proofs
attribute [local irreducible] Ex ExL ExD Op1 Free RetQ MutQ Reads CellO SegO LoadsAs
theorem e_25 : Enters Tryz.prog 25 := Enters.of Tryz.func25 rfl
theorem c_l00From (code : List Int) (Ac : Option Addr) (cc : Nat) : Ret Tryz.prog 25 [.slice Ac code.length cc] (fun w => True) (fun x : Nat => .pointer (some ⟨x, 0, none⟩)) (fun x => [.blk x [.slice Ac code.length cc, .int .i64 0, .int .u64 0] 101]) (fun x => True) := by
  refine Ret.of e_25 Tryz.func25 rfl Tryz.ntmps25 rfl rfl (fun w hpre => ?_)
  refine Ex.regSeq (ExL.pures 1 rfl ?_)
  refine ExL.nil ?_
  refine Ex.regSeq (ExL.pures 1 rfl ?_)
  refine ExL.free (fr_build rfl rfl rfl rfl) rfl rfl rfl ?_
  refine ExL.op rfl (op_box rfl rfl rfl rfl rfl (fun b1 => ?_))
  refine ExL.pures 1 rfl ?_
  refine ExL.nil ?_
  refine Ex.ret ?_
  refine RetQ.mk _ rfl (.tmp rfl .nil) (rfl) [0] (rfl) rfl (trivial)
end Go.Proofs.YthabjnhfhmbamaaGreatDoor

/- What these functions of the program hand back, each proved by walking its operations. -/
set_option linter.unusedVariables false
set_option linter.unusedSimpArgs false
set_option maxRecDepth 4000
namespace Go.Proofs.YthabjnhfhmbamaaGreatDoor
open Go Go.Sx Go.RowKit Go.W Go.Proofs
attribute [local irreducible] Ex ExL ExD Op1 Free RetQ MutQ Reads CellO SegO LoadsAs
theorem e_4 : Enters Tryz.prog 4 := Enters.of Tryz.func4 rfl
theorem c_f6big (s : List Int) (As : Option Addr) (cs : Nat) (hls : s.length ≤ maxLen) : Ret Tryz.prog 4 [.slice As s.length cs] (fun w => True) (fun x : Unit => .bool (decide (4096 < s.length))) (fun x => []) (fun x => True) := by
  refine Ret.of e_4 Tryz.func4 rfl Tryz.ntmps4 rfl rfl (fun w hpre => ?_)
  have hm0 : maxLen = 9223372036854775807 := rfl
  refine Ex.regSeq (ExL.pures 1 rfl ?_)
  refine ExL.nil ?_
  refine Ex.regSeq (ExL.pures 2 rfl ?_)
  refine ExL.gtr rfl rfl rfl rfl rfl rfl (fun h1 => ?_) (fun h1 => ?_)
  · refine ExL.pures 1 rfl ?_
    refine ExL.nil ?_
    refine Ex.ret ?_
    refine RetQ.mk () rfl (.tmp rfl .nil) (tB (by first | exact dec_t (by omega) | exact dec_f (by omega) | exact decide_eq_decide.2 (by omega))) [] (rfl) rfl (trivial)
  · refine ExL.pures 1 rfl ?_
    refine ExL.nil ?_
    refine Ex.ret ?_
    refine RetQ.mk () rfl (.tmp rfl .nil) (tB (by first | exact dec_t (by omega) | exact dec_f (by omega) | exact decide_eq_decide.2 (by omega))) [] (rfl) rfl (trivial)
theorem e_27 : Enters Tryz.prog 27 := Enters.of Tryz.func27 rfl
theorem c_among (code : List Int) (Ac : Option Addr) (cc : Nat) (hcl : code.length ≤ maxLen) (hcu : Nums 255 code) (b : Nat) (at_ sd : Int) (hat : 0 ≤ at_ ∧ at_ ≤ 1000000000) (l : List Int) (Al : Option Addr) (cl : Nat) (hll : 0 < l.length ∧ l.length ≤ 60000) : Mut Tryz.prog 27 [.pointer (some ⟨b, 0, none⟩), .slice Al l.length cl] [.blk b [.slice Ac code.length cc, .int .i64 at_, .int .u64 sd] 101, .row (.slice Al l.length cl) 2 1 l.length (l.flatMap (eI .i64))] (fun base w0 F => RdB base w0 Ac (code.flatMap (eI .u8))) (fun x : Nat × Int × Int => .int .i64 (l.getD x.1 0)) (fun x => [.blk b [.slice Ac code.length cc, .int .i64 x.2.1, .int .u64 x.2.2] 101, .row (.slice Al l.length cl) 2 1 l.length (l.flatMap (eI .i64))]) (fun x => x.1 < l.length ∧ at_ ≤ x.2.1 ∧ x.2.1 ≤ at_ + 2) := by
  refine Mut.of e_27 Tryz.func27 rfl Tryz.ntmps27 rfl rfl (fun base w0 F hfr => ?_)
  have hcode := hfr
  have hm0 : maxLen = 9223372036854775807 := rfl
  refine Ex.regSeq (ExL.pures 1 rfl ?_)
  refine ExL.nil ?_
  refine Ex.regSeq (ExL.pures 4 rfl ?_)
  refine ExL.op rfl (op_mut rfl rfl rfl (c_pick code _ _ (by omega) (by assumption) _ at_ _ (by omega) l.length (by omega)) (perm_at (i := 0) rfl) (hcode) rfl rfl (fun x1 hx1 => ?_))
  refine ExL.free (fr_indexAddrR (sz := 1) 1 rfl rfl rfl rfl rfl rfl (by omega)) rfl rfl rfl ?_
  refine ExL.free (fr_load rfl rfl rfl rfl (by first | exact cellN (Reads.row (i := 1) rfl) (eI_len .i64) 0 0 rfl (by omega) rfl | exact cellF (Reads.row (i := 1) rfl) (eI_len .i64) 0 0 rfl (by omega) rfl)) rfl rfl rfl ?_
  refine ExL.pures 1 rfl ?_
  refine ExL.nil ?_
  refine Ex.ret ?_
  refine MutQ.mk (x1.1.toNat, x1.2.1, x1.2.2) rfl (.tmp rfl .nil) (tI (by first | rfl | (simp; done))) 2 [0, 1] (rfl) rfl (by refine ⟨?_, ?_, ?_⟩ <;> dsimp only <;> omega)
theorem e_59 : Enters Tryz.prog 59 := Enters.of Tryz.func59 rfl
theorem c_one (code : List Int) (Ac : Option Addr) (cc : Nat) (hcl : code.length ≤ maxLen) (hcu : Nums 255 code) (b : Nat) (at_ sd : Int) (hat : 0 ≤ at_ ∧ at_ ≤ 1000000000) (n : Int) (hn : n ≤ 60000) : Mut Tryz.prog 59 [.pointer (some ⟨b, 0, none⟩), .int .i64 n] [.blk b [.slice Ac code.length cc, .int .i64 at_, .int .u64 sd] 101] (fun base w0 F => RdB base w0 Ac (code.flatMap (eI .u8))) (fun x : Bool × Int × Int => .bool x.1) (fun x => [.blk b [.slice Ac code.length cc, .int .i64 x.2.1, .int .u64 x.2.2] 101]) (fun x => at_ ≤ x.2.1 ∧ x.2.1 ≤ at_ + 2) := by
  refine Mut.of e_59 Tryz.func59 rfl Tryz.ntmps59 rfl rfl (fun base w0 F hfr => ?_)
  have hcode := hfr
  have hm0 : maxLen = 9223372036854775807 := rfl
  refine Ex.regSeq (ExL.pures 1 rfl ?_)
  refine ExL.nil ?_
  refine Ex.regSeq (ExL.pures 2 rfl ?_)
  refine ExL.op rfl (op_mut rfl rfl rfl (c_pick code _ _ (by omega) (by assumption) _ at_ _ (by omega) n (by omega)) (perm_at (i := 0) rfl) (hcode) rfl rfl (fun x1 hx1 => ?_))
  refine ExL.free (fr_eql rfl rfl rfl) rfl rfl rfl ?_
  refine ExL.pures 1 rfl ?_
  refine ExL.nil ?_
  refine Ex.ret ?_
  refine MutQ.mk (_, x1.2.1, x1.2.2) rfl (.tmp rfl .nil) (rfl) 1 [0] (rfl) rfl (by constructor <;> dsimp only <;> omega)
end Go.Proofs.YthabjnhfhmbamaaGreatDoor

/- What these functions of the program hand back, each proved by walking its operations. -/
set_option linter.unusedVariables false
set_option linter.unusedSimpArgs false
set_option maxRecDepth 4000
namespace Go.Proofs.YthabjnhfhmbamaaGreatDoor
open Go Go.Sx Go.RowKit Go.W Go.Proofs
attribute [local irreducible] Ex ExL ExD Op1 Free RetQ MutQ Reads CellO SegO LoadsAs
theorem e_57 : Enters Tryz.prog 57 := Enters.of Tryz.func57 rfl
theorem c_l01Drawn (code : List Int) (Ac : Option Addr) (cc : Nat) (hcl : code.length ≤ maxLen) (hcu : Nums 255 code) (b : Nat) (at_ sd : Int) (hat : 0 ≤ at_ ∧ at_ ≤ 1000000) : Mut Tryz.prog 57 [.pointer (some ⟨b, 0, none⟩)] [.blk b [.slice Ac code.length cc, .int .i64 at_, .int .u64 sd] 101] (fun base w0 F => RdB base w0 Ac (code.flatMap (eI .u8))) (fun x : (Int × Int) × (Option Addr × Nat) × List Int => .slice x.2.1.1 x.2.2.length x.2.1.2) (fun x => [.blk b [.slice Ac code.length cc, .int .i64 x.1.1, .int .u64 x.1.2] 101, .row (.slice x.2.1.1 x.2.2.length x.2.1.2) 5 1 x.2.2.length (x.2.2.flatMap (eI .u8))]) (fun x => DrStk x.2.2 ∧ at_ ≤ x.1.1 ∧ x.1.1 ≤ at_ + 10) := by
  refine Mut.of e_57 Tryz.func57 rfl Tryz.ntmps57 rfl rfl (fun base w0 F hfr => ?_)
  have hcode := hfr
  have hm0 : maxLen = 9223372036854775807 := rfl
  refine Ex.regSeq (ExL.pures 1 rfl ?_)
  refine ExL.nil ?_
  refine Ex.regSeq (ExL.pures 0 rfl ?_)
  refine ExL.op rfl (op_buildSlice (sz := 1) rfl rfl rfl rfl rfl rfl rfl rfl (by decide) rfl rfl rfl (fun r1 => ?_))
  refine ExL.pures 1 rfl ?_
  refine ExL.nil ?_
  refine Ex.seq ?_
  refine Ex.regSeq (ExL.pures 1 rfl ?_)
  refine ExL.op rfl (op_mut rfl rfl rfl (c_pick code _ _ (by omega) (by assumption) _ at_ _ (by omega) 4 (by omega)) (perm_at (i := 1) rfl) (hcode) rfl rfl (fun x2 hx2 => ?_))
  refine ExL.free (by first | exact fr_add64 rfl rfl rfl (by omega) | exact fr_add rfl rfl rfl) rfl rfl rfl ?_
  refine ExL.pures 1 rfl ?_
  refine ExL.nil ?_
  refine Ex.block ?_
  refine Ex.loopK (X := StS) (fun q => [(3, .slice q.A q.l.length q.c), (4, .int .i64 q.k)]) (fun q => [.blk b [.slice Ac code.length cc, .int .i64 q.at_, .int .u64 q.sd] 101, .row (.slice q.A q.l.length q.c) 5 1 q.l.length (q.l.flatMap (eI .u8))]) (fun q => StkP q.l ∧ (q.l.length : Int) + q.k ≤ 4 ∧ 1 ≤ (q.l.length : Int) + q.k ∧ 0 ≤ q.k ∧ at_ ≤ q.at_ ∧ q.at_ ≤ at_ + 2 + 2 * q.l.length) (fun q => q.k.toNat) (⟨[], (1 + x2.1), x2.2.1, x2.2.2, (some ⟨r1, 0, none⟩), 0⟩ : StS) [(0, _), (2, _)] (F) 2 [0, 1] ⟨rfl, rfl, trivial⟩ ⟨rfl, rfl, trivial⟩ (rfl) rfl ⟨StkP.nil, by dsimp only [List.length_nil]; omega, by dsimp only [List.length_nil]; omega, by dsimp only; omega, by dsimp only; omega, by dsimp only [List.length_nil]; omega⟩ (fun q hI => ?_)
  have hI : StkP q.l ∧ (q.l.length : Int) + q.k ≤ 4 ∧ 1 ≤ (q.l.length : Int) + q.k ∧ 0 ≤ q.k ∧ at_ ≤ q.at_ ∧ q.at_ ≤ at_ + 2 + 2 * q.l.length := hI
  obtain ⟨hP, hlk, hlk1, hk0, hat1, hat2⟩ := hI
  refine Ex.seq ?_
  refine Ex.regSeq (ExL.pures 1 rfl ?_)
  refine ExL.gtr rfl rfl rfl rfl rfl rfl (fun h3 => ?_) (fun h3 => ?_)
  · refine ExL.nil ?_
    refine Ex.cond_t rfl ?_
    refine Ex.skip ?_
    refine Ex.seq ?_
    refine Ex.block ?_
    refine Ex.region (ExL.pures 2 rfl ?_)
    refine ExL.op rfl (op_buildSlice (sz := 1) rfl rfl rfl rfl rfl rfl rfl rfl (by decide) rfl rfl rfl (fun r4 => ?_))
    refine ExL.op rfl (op_mut rfl rfl rfl (c_among code _ _ (by omega) (by assumption) _ q.at_ _ (by omega) [10, 10, 10, 60, 24, 2, 3, 12, 100] _ _ (by decide)) (perm_gt (i := 1) (j := 0) rfl rfl rfl) (hcode) rfl rfl (fun x5 hx5 => ?_))
    have hmx5 := getD_mem (s := [10, 10, 10, 60, 24, 2, 3, 12, 100]) 0 hx5.1
    simp only [List.mem_cons, List.not_mem_nil, or_false] at hmx5
    refine ExL.free (by first | exact fr_conv_u8 rfl rfl rfl rfl (by omega) | exact fr_conv rfl rfl rfl rfl) rfl rfl rfl ?_
    refine ExL.op rfl (op_buildSlice (sz := 1) rfl rfl rfl rfl rfl rfl rfl rfl (by decide) rfl rfl rfl (fun r6 => ?_))
    refine ExL.op rfl (op_append (sz := 1) (bytes := 1) (i := 3) rfl rfl rfl rfl (Reads.row (i := 0) rfl) rfl (fun e => nomatch e) rfl rfl rfl rfl (by constructor <;> first | omega | (unfold maxLen; omega)) rfl rfl (fun A7 cA7 => ?_))
    refine ExL.pures 1 rfl ?_
    refine ExL.nil ?_
    refine Ex.region (ExL.pures 1 rfl ?_)
    refine ExL.free (by first | exact fr_sub64 rfl rfl rfl (by omega) | exact fr_sub rfl rfl rfl) rfl rfl rfl ?_
    refine ExL.pures 1 rfl ?_
    refine ExL.nil ?_
    refine Hand.mk (⟨q.l ++ [([10, 10, 10, 60, 24, 2, 3, 12, 100].getD x5.1 0)], q.k - 1, x5.2.1, x5.2.2, A7, cA7⟩ : StS) 4 [1, 3] ⟨(by rw [List.length_append]; rfl), rfl, trivial⟩ ⟨rfl, rfl, trivial⟩ (by rw [List.length_append, List.flatMap_append]; rfl) rfl (⟨hP.next (by omega), by dsimp only; rw [List.length_append, List.length_singleton]; omega, by dsimp only; rw [List.length_append, List.length_singleton]; omega, by dsimp only; omega, by dsimp only; omega, by dsimp only; rw [List.length_append, List.length_singleton]; push_cast; omega⟩) (by dsimp only; omega)
  · refine ExL.nil ?_
    refine Ex.cond_f rfl ?_
    refine Ex.exit ?_
    refine Ex.regSeq (ExL.pures 2 rfl ?_)
    refine ExL.nil ?_
    refine Ex.ret ?_
    refine MutQ.mk ((q.at_, q.sd), (q.A, q.c), q.l) rfl (.tmp rfl .nil) (rfl) 2 [0, 1] (rfl) rfl (⟨⟨hP, by dsimp only; omega, by dsimp only; omega⟩, by dsimp only; omega, by dsimp only; omega⟩)
end Go.Proofs.YthabjnhfhmbamaaGreatDoor

/- What these functions of the program hand back, each proved by walking its operations. -/
set_option linter.unusedVariables false
set_option linter.unusedSimpArgs false
set_option maxRecDepth 4000
namespace Go.Proofs.YthabjnhfhmbamaaGreatDoor
open Go Go.Sx Go.RowKit Go.W Go.Proofs
attribute [local irreducible] Ex ExL ExD Op1 Free RetQ MutQ Reads CellO SegO LoadsAs
theorem e_24 : Enters Tryz.prog 24 := Enters.of Tryz.func24 rfl
theorem c_l07Drawn (code : List Int) (Ac : Option Addr) (cc : Nat) (hcl : code.length ≤ maxLen) (hcu : Nums 255 code) (b : Nat) (at_ sd : Int) (hat : 0 ≤ at_ ∧ at_ ≤ 500000) : Mut Tryz.prog 24 [.pointer (some ⟨b, 0, none⟩)] [.blk b [.slice Ac code.length cc, .int .i64 at_, .int .u64 sd] 101] (fun base w0 F => RdB base w0 Ac (code.flatMap (eI .u8))) (fun x : (Int × Int) × (Option Addr × Nat) × VDev => .agg (encV x.2.1.1 x.2.1.2 x.2.2).toArray) (fun x => [.blk b [.slice Ac code.length cc, .int .i64 x.1.1, .int .u64 x.1.2] 101, .row (.slice x.2.1.1 x.2.2.stack.length x.2.1.2) 5 1 x.2.2.stack.length (x.2.2.stack.flatMap (eI .u8))]) (fun x => DrDev x.2.2 ∧ at_ ≤ x.1.1 ∧ x.1.1 ≤ at_ + 30) := by
  refine Mut.of e_24 Tryz.func24 rfl Tryz.ntmps24 rfl rfl (fun base w0 F hfr => ?_)
  have hcode := hfr
  have hm0 : maxLen = 9223372036854775807 := rfl
  refine Ex.regSeq (ExL.pures 0 rfl ?_)
  refine ExL.op rfl (op_alloc rfl rfl rfl rfl rfl (fun b1 => ?_))
  refine ExL.nil ?_
  refine Ex.regSeq (ExL.pures 1 rfl ?_)
  refine ExL.op rfl (op_mut rfl rfl rfl (c_l01Drawn code _ _ (by omega) (by assumption) _ at_ _ (by omega)) (perm_at (i := 1) rfl) (hcode) rfl rfl (fun x2 hx2 => ?_))
  obtain ⟨hSx2, hqx2⟩ := hx2
  have hux2 := hSx2.nums
  have hvx2 := hSx2.valid
  have hzx2 := hSx2.size
  have hlx2 := hSx2.2
  refine ExL.pures 1 rfl ?_
  refine ExL.op rfl (op_mut rfl rfl rfl (c_pick code _ _ (by omega) (by assumption) _ x2.1.1 _ (by omega) 20 (by omega)) (perm_at (i := 0) rfl) (hcode) rfl rfl (fun x3 hx3 => ?_))
  refine ExL.free (fr_build rfl rfl rfl rfl) rfl rfl rfl ?_
  refine ExL.op rfl (op_alloc rfl rfl rfl rfl rfl (fun b4 => ?_))
  refine ExL.op rfl (op_storeC (i := 0) rfl rfl rfl rfl rfl rfl rfl rfl rfl rfl ?_)
  refine ExL.nil ?_
  refine Ex.regSeq (ExL.pures 1 rfl ?_)
  refine ExL.free (fr_load rfl rfl rfl rfl (CellO.blk (i := 0) rfl rfl)) rfl rfl rfl ?_
  refine ExL.op rfl (op_ret rfl rfl rfl (c_l01Size _ (by assumption) _ _ (by first | assumption | omega | (unfold maxLen; omega))) (Reads.get (Reads.row (i := 2) rfl)) rfl rfl (fun x5 hx5 => ?_))
  refine ExL.pures 1 rfl ?_
  refine ExL.nil ?_
  have hr1 := fun z => Int.emod_nonneg z (show (size x2.2.2) ≠ 0 by omega)
  have hr2 := fun z => Int.emod_lt_of_pos z (show 0 < (size x2.2.2) by omega)
  refine Ex.regSeq (ExL.pures 1 rfl ?_)
  refine ExL.op rfl (op_mut rfl rfl rfl (c_pick code _ _ (by omega) (by assumption) _ x3.2.1 _ (by omega) 1073741824 (by omega)) (perm_at (i := 1) rfl) (hcode) rfl rfl (fun x6 hx6 => ?_))
  refine ExL.pures 1 rfl ?_
  refine ExL.free (by first | exact fr_remP rfl rfl rfl (by omega) | exact fr_rem rfl rfl rfl (by omega)) rfl rfl rfl ?_
  refine ExL.pures 1 rfl ?_
  refine ExL.nil ?_
  have hra := hr1 x6.1
  have hrb := hr2 x6.1
  refine Ex.regSeq (ExL.pures 1 rfl ?_)
  refine ExL.free (fr_load rfl rfl rfl rfl (CellO.blk (i := 1) rfl rfl)) rfl rfl rfl ?_
  refine ExL.pures 1 rfl ?_
  refine ExL.op rfl (op_ret rfl rfl rfl (c_l01Of x2.2.2 (by first | assumption | simp_all) _ _ _ (by omega)) (Reads.get (Reads.row (i := 2) rfl)) rfl rfl (fun x7 hx7 => ?_))
  refine ExL.pures 1 rfl ?_
  refine ExL.op rfl (op_storeC (i := 1) rfl rfl rfl rfl rfl rfl rfl rfl rfl rfl ?_)
  refine ExL.nil ?_
  refine Ex.seq ?_
  generalize hD : (dig (digs x2.2.2 (x6.1 % (size x2.2.2)))) = D
  show Ex _ _ _ (_ :: .blk _ (encV x2.2.1.1 x2.2.1.2 ⟨x2.2.2, D, (-1), false, x3.1⟩) 28 :: _) _
  refine Ex.regSeq (ExL.pures 1 rfl ?_)
  refine ExL.op rfl (op_mut rfl rfl rfl (c_pick code _ _ (by omega) (by assumption) _ x6.2.1 _ (by omega) 4 (by omega)) (perm_at (i := 0) rfl) (hcode) rfl rfl (fun x8 hx8 => ?_))
  refine ExL.nil ?_
  refine Ex.block ?_
  refine Ex.regSeq (ExL.pures 0 rfl ?_)
  refine ExL.eql rfl rfl rfl rfl rfl rfl (fun h9 => ?_) (fun h9 => ?_)
  · refine ExL.pures 1 rfl ?_
    refine ExL.nil ?_
    refine Ex.cond_t rfl ?_
    refine Ex.region (ExL.pures 2 rfl ?_)
    refine ExL.op rfl (op_mut rfl rfl rfl (c_pick code _ _ (by omega) (by assumption) _ x8.2.1 _ (by omega) 12 (by omega)) (perm_at (i := 0) rfl) (hcode) rfl rfl (fun x10 hx10 => ?_))
    refine ExL.free (by first | exact fr_add64 rfl rfl rfl (by omega) | exact fr_add rfl rfl rfl) rfl rfl rfl ?_
    refine ExL.pures 1 rfl ?_
    refine ExL.free (by first | exact fr_remP rfl rfl rfl (by omega) | exact fr_rem rfl rfl rfl (by omega)) rfl rfl rfl ?_
    refine ExL.pures 1 rfl ?_
    refine ExL.op rfl (op_storeC (i := 1) rfl rfl rfl rfl rfl rfl rfl rfl rfl rfl ?_)
    refine ExL.nil ?_
    show Ex _ _ _ (_ :: .blk _ (encV x2.2.1.1 x2.2.1.2 ⟨x2.2.2, D, (((x6.1 % (size x2.2.2)) + x10.1) % (size x2.2.2)), false, x3.1⟩) 28 :: _) _
    have hrc := hr1 (((x6.1 % (size x2.2.2)) + x10.1))
    have hrd := hr2 (((x6.1 % (size x2.2.2)) + x10.1))
    refine Ex.regSeq (ExL.pures 0 rfl ?_)
    refine ExL.free (fr_loadN rfl rfl rfl rfl rfl (SegO.whole (i := 1) rfl)) rfl rfl rfl ?_
    refine ExL.op rfl (op_storeC (i := 3) rfl rfl rfl rfl rfl rfl rfl rfl rfl rfl ?_)
    refine ExL.nil ?_
    refine Ex.ret ?_
    refine MutQ.mk ((x10.2.1, x10.2.2), (x2.2.1.1, x2.2.1.2), (⟨x2.2.2, D, (((x6.1 % (size x2.2.2)) + x10.1) % (size x2.2.2)), false, x3.1⟩ : VDev)) rfl (.cell rfl (.many rfl rfl rfl (SegO.whole (i := 3) rfl)) .nil) (rfl) 4 [0, 2] (rfl) rfl (⟨by subst hD; exact drawn_dev (by assumption) (by omega) (by first | exact .inl rfl | (right; omega)) (by first | (intro h; cases h; done) | (intro _; first | rfl | omega)) (by omega), by dsimp only; omega, by dsimp only; omega⟩)
  · refine ExL.pures 1 rfl ?_
    refine ExL.nil ?_
    refine Ex.cond_f rfl ?_
    refine Ex.regSeq (ExL.pures 0 rfl ?_)
    refine ExL.eql rfl rfl rfl rfl rfl rfl (fun h11 => ?_) (fun h11 => ?_)
    · refine ExL.pures 1 rfl ?_
      refine ExL.nil ?_
      refine Ex.cond_t rfl ?_
      refine Ex.region (ExL.pures 1 rfl ?_)
      refine ExL.op rfl (op_mut rfl rfl rfl (c_pick code _ _ (by omega) (by assumption) _ x8.2.1 _ (by omega) 1073741824 (by omega)) (perm_at (i := 0) rfl) (hcode) rfl rfl (fun x12 hx12 => ?_))
      refine ExL.pures 1 rfl ?_
      refine ExL.free (by first | exact fr_remP rfl rfl rfl (by omega) | exact fr_rem rfl rfl rfl (by omega)) rfl rfl rfl ?_
      refine ExL.pures 1 rfl ?_
      refine ExL.op rfl (op_storeC (i := 1) rfl rfl rfl rfl rfl rfl rfl rfl rfl rfl ?_)
      refine ExL.nil ?_
      show Ex _ _ _ (_ :: .blk _ (encV x2.2.1.1 x2.2.1.2 ⟨x2.2.2, D, (x12.1 % (size x2.2.2)), false, x3.1⟩) 28 :: _) _
      have hrc := hr1 (x12.1)
      have hrd := hr2 (x12.1)
      refine Ex.regSeq (ExL.pures 0 rfl ?_)
      refine ExL.free (fr_loadN rfl rfl rfl rfl rfl (SegO.whole (i := 1) rfl)) rfl rfl rfl ?_
      refine ExL.op rfl (op_storeC (i := 3) rfl rfl rfl rfl rfl rfl rfl rfl rfl rfl ?_)
      refine ExL.nil ?_
      refine Ex.ret ?_
      refine MutQ.mk ((x12.2.1, x12.2.2), (x2.2.1.1, x2.2.1.2), (⟨x2.2.2, D, (x12.1 % (size x2.2.2)), false, x3.1⟩ : VDev)) rfl (.cell rfl (.many rfl rfl rfl (SegO.whole (i := 3) rfl)) .nil) (rfl) 4 [0, 2] (rfl) rfl (⟨by subst hD; exact drawn_dev (by assumption) (by omega) (by first | exact .inl rfl | (right; omega)) (by first | (intro h; cases h; done) | (intro _; first | rfl | omega)) (by omega), by dsimp only; omega, by dsimp only; omega⟩)
    · refine ExL.pures 1 rfl ?_
      refine ExL.nil ?_
      refine Ex.cond_f rfl ?_
      refine Ex.regSeq (ExL.pures 0 rfl ?_)
      refine ExL.eql rfl rfl rfl rfl rfl rfl (fun h13 => ?_) (fun h13 => ?_)
      · refine ExL.pures 1 rfl ?_
        refine ExL.nil ?_
        refine Ex.cond_t rfl ?_
        refine Ex.regSeq (ExL.pures 2 rfl ?_)
        refine ExL.op rfl (op_storeC (i := 1) rfl rfl rfl rfl rfl rfl rfl rfl rfl rfl ?_)
        refine ExL.nil ?_
        refine Ex.region (ExL.pures 1 rfl ?_)
        refine ExL.op rfl (op_mut rfl rfl rfl (c_one code _ _ (by omega) (by assumption) _ x8.2.1 _ (by omega) 2 (by omega)) (perm_at (i := 0) rfl) (hcode) rfl rfl (fun x14 hx14 => ?_))
        refine ExL.pures 1 rfl ?_
        refine ExL.op rfl (op_storeC (i := 1) rfl rfl rfl rfl rfl rfl rfl rfl rfl rfl ?_)
        refine ExL.nil ?_
        show Ex _ _ _ (_ :: .blk _ (encV x2.2.1.1 x2.2.1.2 ⟨x2.2.2, D, (x6.1 % (size x2.2.2)), x14.1, x3.1⟩) 28 :: _) _
        have hrc := hr1 (x6.1)
        have hrd := hr2 (x6.1)
        refine Ex.regSeq (ExL.pures 0 rfl ?_)
        refine ExL.free (fr_loadN rfl rfl rfl rfl rfl (SegO.whole (i := 1) rfl)) rfl rfl rfl ?_
        refine ExL.op rfl (op_storeC (i := 3) rfl rfl rfl rfl rfl rfl rfl rfl rfl rfl ?_)
        refine ExL.nil ?_
        refine Ex.ret ?_
        refine MutQ.mk ((x14.2.1, x14.2.2), (x2.2.1.1, x2.2.1.2), (⟨x2.2.2, D, (x6.1 % (size x2.2.2)), x14.1, x3.1⟩ : VDev)) rfl (.cell rfl (.many rfl rfl rfl (SegO.whole (i := 3) rfl)) .nil) (rfl) 4 [0, 2] (rfl) rfl (⟨by subst hD; exact drawn_dev (by assumption) (by omega) (by first | exact .inl rfl | (right; omega)) (by first | (intro h; cases h; done) | (intro _; first | rfl | omega)) (by omega), by dsimp only; omega, by dsimp only; omega⟩)
      · refine ExL.pures 1 rfl ?_
        refine ExL.nil ?_
        refine Ex.cond_f rfl ?_
        refine Ex.skip ?_
        show Ex _ _ _ (_ :: .blk _ (encV x2.2.1.1 x2.2.1.2 ⟨x2.2.2, D, (-1), false, x3.1⟩) 28 :: _) _
        refine Ex.regSeq (ExL.pures 0 rfl ?_)
        refine ExL.free (fr_loadN rfl rfl rfl rfl rfl (SegO.whole (i := 1) rfl)) rfl rfl rfl ?_
        refine ExL.op rfl (op_storeC (i := 3) rfl rfl rfl rfl rfl rfl rfl rfl rfl rfl ?_)
        refine ExL.nil ?_
        refine Ex.ret ?_
        refine MutQ.mk ((x8.2.1, x8.2.2), (x2.2.1.1, x2.2.1.2), (⟨x2.2.2, D, (-1), false, x3.1⟩ : VDev)) rfl (.cell rfl (.many rfl rfl rfl (SegO.whole (i := 3) rfl)) .nil) (rfl) 4 [0, 2] (rfl) rfl (⟨by subst hD; exact drawn_dev (by assumption) (by omega) (by first | exact .inl rfl | (right; omega)) (by first | (intro h; cases h; done) | (intro _; first | rfl | omega)) (by omega), by dsimp only; omega, by dsimp only; omega⟩)
end Go.Proofs.YthabjnhfhmbamaaGreatDoor

/- What these functions of the program hand back, each proved by walking its operations. -/
set_option linter.unusedVariables false
set_option linter.unusedSimpArgs false
set_option maxRecDepth 4000
namespace Go.Proofs.YthabjnhfhmbamaaGreatDoor
open Go Go.Sx Go.RowKit Go.W Go.Proofs
attribute [local irreducible] Ex ExL ExD Op1 Free RetQ MutQ Reads CellO SegO LoadsAs
theorem e_5 : Enters Tryz.prog 5 := Enters.of Tryz.func5 rfl
theorem c_P6Device (code : List Int) (Ac : Option Addr) (cc : Nat) (hcl : code.length ≤ maxLen) (hcu : Nums 255 code) : Ret Tryz.prog 5 [.slice Ac code.length cc] (fun w => Rd w Ac (code.flatMap (eI .u8))) (fun x : (Option Addr × Nat) × VDev => .agg (encV x.1.1 x.1.2 x.2).toArray) (fun x => [.row (.slice x.1.1 x.2.stack.length x.1.2) 5 1 x.2.stack.length (x.2.stack.flatMap (eI .u8))]) (fun x => DrDev x.2) := by
  refine Ret.of e_5 Tryz.func5 rfl Tryz.ntmps5 rfl rfl (fun w hpre => ?_)
  have hcode := hpre.base
  have hm0 : maxLen = 9223372036854775807 := rfl
  refine Ex.regSeq (ExL.pures 0 rfl ?_)
  refine ExL.op rfl (op_alloc rfl rfl rfl rfl rfl (fun b1 => ?_))
  refine ExL.nil ?_
  refine Ex.regSeq (ExL.pures 1 rfl ?_)
  refine ExL.op rfl (op_ret rfl rfl rfl (c_l00From code _ _) (fun _ _ => trivial) rfl rfl (fun x2 hx2 => ?_))
  refine ExL.op rfl (op_mut rfl rfl rfl (c_l07Drawn code _ _ (by omega) (by assumption) _ 0 _ (by omega)) (perm_at (i := 0) rfl) (hcode) rfl rfl (fun x3 hx3 => ?_))
  refine ExL.op rfl (op_storeC (i := 2) rfl rfl rfl rfl rfl rfl rfl rfl rfl rfl ?_)
  refine ExL.nil ?_
  refine Ex.ret ?_
  refine RetQ.mk ((x3.2.1.1, x3.2.1.2), x3.2.2) rfl (.cell rfl (.many rfl rfl rfl (SegO.whole (i := 2) rfl)) .nil) (rfl) [1] (rfl) rfl ((by assumption : DrDev _ ∧ _).1)
theorem e_18 : Enters Tryz.prog 18 := Enters.of Tryz.func18 rfl
theorem c_P6Pick (code : List Int) (Ac : Option Addr) (cc : Nat) (hcl : code.length ≤ maxLen) (hcu : Nums 255 code) (n : Int) (hn : n ≤ 9223372036854775807) : Ret Tryz.prog 18 [.slice Ac code.length cc, .int .i64 n] (fun w => Rd w Ac (code.flatMap (eI .u8))) (fun x : Int => .int .i64 x) (fun x => []) (fun x => 0 ≤ x ∧ (x < n ∨ x = 0) ∧ x ≤ 65535) := by
  refine Ret.of e_18 Tryz.func18 rfl Tryz.ntmps18 rfl rfl (fun w hpre => ?_)
  have hcode := hpre.base
  have hm0 : maxLen = 9223372036854775807 := rfl
  refine Ex.regSeq (ExL.pures 1 rfl ?_)
  refine ExL.nil ?_
  refine Ex.regSeq (ExL.pures 1 rfl ?_)
  refine ExL.op rfl (op_ret rfl rfl rfl (c_l00From code _ _) (fun _ _ => trivial) rfl rfl (fun x1 hx1 => ?_))
  refine ExL.pures 1 rfl ?_
  refine ExL.op rfl (op_mut rfl rfl rfl (c_pick code _ _ (by omega) (by assumption) _ 0 _ (by omega) n (by omega)) (perm_at (i := 0) rfl) (hcode) rfl rfl (fun x2 hx2 => ?_))
  refine ExL.pures 1 rfl ?_
  refine ExL.nil ?_
  refine Ex.ret ?_
  refine RetQ.mk _ rfl (.tmp rfl .nil) (rfl) [] (rfl) rfl (by refine ⟨?_, ?_, ?_⟩ <;> omega)
theorem e_6 : Enters Tryz.prog 6 := Enters.of Tryz.func6 rfl
theorem c_P6Acts (code : List Int) (Ac : Option Addr) (cc : Nat) (hcl : code.length ≤ maxLen) (hcu : Nums 255 code) (d : VDev) (hD : DrDev d) (Ad : Option Addr) (cd : Nat) : Ret Tryz.prog 6 [.slice Ac code.length cc, .agg (encV Ad cd d).toArray] (fun w => Rd w Ac (code.flatMap (eI .u8)) ∧ Rd w Ad (d.stack.flatMap (eI .u8))) (fun x : (Option Addr × Nat) × List VAct => .slice x.1.1 x.2.length x.1.2) (fun x => [.row (.slice x.1.1 x.2.length x.1.2) 44 2 x.2.length (x.2.flatMap encA)]) (fun x => DrActs d.stack x.2) := by
  refine Ret.of e_6 Tryz.func6 rfl Tryz.ntmps6 rfl rfl (fun w hpre => ?_)
  have hcode := hpre.1.base
  have hd := hpre.2.base
  have hN := hD.len
  have hS := hN.2.2.1
  have hu := hN.2.2.2.1
  have hm0 : maxLen = 9223372036854775807 := rfl
  refine Ex.regSeq (ExL.pures 0 rfl ?_)
  refine ExL.op rfl (op_box rfl rfl rfl rfl rfl (fun b1 => ?_))
  refine ExL.pures 1 rfl ?_
  refine ExL.nil ?_
  refine Ex.regSeq (ExL.pures 1 rfl ?_)
  refine ExL.op rfl (op_ret rfl rfl rfl (c_l00From code _ _) (fun _ _ => trivial) rfl rfl (fun x2 hx2 => ?_))
  refine ExL.pures 1 rfl ?_
  refine ExL.nil ?_
  refine Ex.regSeq (ExL.pures 0 rfl ?_)
  refine ExL.op rfl (op_buildSlice (sz := 2) rfl rfl rfl rfl rfl rfl rfl rfl (by decide) rfl rfl rfl (fun r3 => ?_))
  refine ExL.pures 1 rfl ?_
  refine ExL.nil ?_
  refine Ex.seq ?_
  refine Ex.regSeq (ExL.pures 1 rfl ?_)
  refine ExL.op rfl (op_mut rfl rfl rfl (c_pick code _ _ (by omega) (by assumption) _ 0 _ (by omega) 10 (by omega)) (perm_at (i := 1) rfl) (hcode) rfl rfl (fun x4 hx4 => ?_))
  refine ExL.pures 1 rfl ?_
  refine ExL.nil ?_
  refine Ex.block ?_
  refine Ex.loopK (X := AcS) (fun q => [(6, .slice q.A q.l.length q.c), (7, .int .i64 q.k)]) (fun q => [.blk x2 [.slice Ac code.length cc, .int .i64 q.at_, .int .u64 q.sd] 101, .row (.slice q.A q.l.length q.c) 44 2 q.l.length (q.l.flatMap encA)]) (fun q => ActP d.stack q.l ∧ (q.l.length : Int) + q.k ≤ 9 ∧ 0 ≤ q.k ∧ 0 ≤ q.at_ ∧ q.at_ ≤ 2 + 10 * q.l.length) (fun q => q.k.toNat) (⟨[], x4.1, x4.2.1, x4.2.2, (some ⟨r3, 0, none⟩), 0⟩ : AcS) [(3, _), (4, _), (5, _)] [_] 3 [0, 1, 2] ⟨rfl, rfl, trivial⟩ ⟨rfl, rfl, rfl, trivial⟩ (rfl) rfl ⟨ActP.nil, by dsimp only [List.length_nil]; omega, by dsimp only; omega, by dsimp only; omega, by dsimp only [List.length_nil]; omega⟩ (fun q hI => ?_)
  have hI : ActP d.stack q.l ∧ (q.l.length : Int) + q.k ≤ 9 ∧ 0 ≤ q.k ∧ 0 ≤ q.at_ ∧ q.at_ ≤ 2 + 10 * q.l.length := hI
  obtain ⟨hP, hlk, hk0, hat1, hat2⟩ := hI
  refine Ex.seq ?_
  refine Ex.regSeq (ExL.pures 1 rfl ?_)
  refine ExL.gtr rfl rfl rfl rfl rfl rfl (fun h5 => ?_) (fun h5 => ?_)
  · refine ExL.nil ?_
    refine Ex.cond_t rfl ?_
    refine Ex.skip ?_
    refine Ex.seq ?_
    refine Ex.block ?_
    refine Ex.regSeq (ExL.pures 1 rfl ?_)
    refine ExL.op rfl (op_buildSlice (sz := 1) rfl rfl rfl rfl rfl rfl rfl rfl (by decide) rfl rfl rfl (fun r6 => ?_))
    refine ExL.op rfl (op_mut rfl rfl rfl (c_among code _ _ (by omega) (by assumption) _ q.at_ _ (by omega) [1, 1, 1, 2, 3, 4, 5, 5] _ _ (by decide)) (perm_gt (i := 1) (j := 0) rfl rfl rfl) (hcode) rfl rfl (fun x7 hx7 => ?_))
    have hmx7 := getD_mem (s := [1, 1, 1, 2, 3, 4, 5, 5]) 0 hx7.1
    simp only [List.mem_cons, List.not_mem_nil, or_false] at hmx7
    refine ExL.free (by first | exact fr_conv_i8 rfl rfl rfl rfl (by omega) | exact fr_conv rfl rfl rfl rfl) rfl rfl rfl ?_
    refine ExL.free (fr_build rfl rfl rfl rfl) rfl rfl rfl ?_
    refine ExL.op rfl (op_alloc rfl rfl rfl rfl rfl (fun b8 => ?_))
    refine ExL.op rfl (op_storeC (i := 0) rfl rfl rfl rfl rfl rfl rfl rfl rfl rfl ?_)
    refine ExL.nil ?_
    refine Ex.seq ?_
    refine Ex.regSeq (ExL.pures 1 rfl ?_)
    refine ExL.free (fr_load rfl rfl rfl rfl (CellO.blk (i := 0) rfl rfl)) rfl rfl rfl ?_
    refine ExL.nil ?_
    refine Ex.block ?_
    refine Ex.seq ?_
    refine Ex.regSeq (ExL.pures 0 rfl ?_)
    refine ExL.eql rfl rfl rfl rfl rfl rfl (fun h9 => ?_) (fun h9 => ?_)
    · refine ExL.pures 1 rfl ?_
      refine ExL.nil ?_
      refine Ex.cond_t rfl ?_
      refine Ex.skip ?_
      refine Ex.cond_t rfl ?_
      refine Ex.region (ExL.pures 1 rfl ?_)
      refine ExL.op rfl (op_mut rfl rfl rfl (c_pick code _ _ (by omega) (by assumption) _ x7.2.1 _ (by omega) 20 (by omega)) (perm_at (i := 1) rfl) (hcode) rfl rfl (fun x10 hx10 => ?_))
      refine ExL.pures 1 rfl ?_
      refine ExL.op rfl (op_storeC (i := 1) rfl rfl rfl rfl rfl rfl rfl rfl rfl rfl ?_)
      refine ExL.nil ?_
      refine Ex.region (ExL.pures 1 rfl ?_)
      refine ExL.free (fr_loadN rfl rfl rfl rfl rfl (SegO.whole (i := 1) rfl)) rfl rfl rfl ?_
      refine ExL.op rfl (op_buildSlice (sz := 2) rfl rfl rfl rfl rfl rfl rfl rfl (by decide) rfl rfl rfl (fun r11 => ?_))
      refine ExL.op rfl (op_append (sz := 2) (bytes := 16) (i := 4) rfl rfl rfl rfl (Reads.row (i := 0) rfl) rfl (fun e => nomatch e) rfl rfl rfl rfl (by constructor <;> first | omega | (unfold maxLen; omega)) rfl rfl (fun A12 cA12 => ?_))
      refine ExL.pures 1 rfl ?_
      refine ExL.nil ?_
      refine Ex.region (ExL.pures 1 rfl ?_)
      refine ExL.free (by first | exact fr_sub64 rfl rfl rfl (by omega) | exact fr_sub rfl rfl rfl) rfl rfl rfl ?_
      refine ExL.pures 1 rfl ?_
      refine ExL.nil ?_
      refine Hand.mk (⟨q.l ++ [⟨([1, 1, 1, 2, 3, 4, 5, 5].getD x7.1 0), x10.1⟩], q.k - 1, x10.2.1, x10.2.2, A12, cA12⟩ : AcS) 6 [1, 4, 5] ⟨(by rw [List.length_append]; rfl), rfl, trivial⟩ ⟨rfl, rfl, rfl, trivial⟩ (by rw [List.length_append, List.flatMap_append]; rfl) rfl (⟨hP.next (by unfold OkJ; dsimp only; omega), by dsimp only; rw [List.length_append, List.length_singleton]; omega, by dsimp only; omega, by dsimp only; omega, by dsimp only; rw [List.length_append, List.length_singleton]; push_cast; omega⟩) (by dsimp only; omega)
    · refine ExL.pures 1 rfl ?_
      refine ExL.nil ?_
      refine Ex.cond_f rfl ?_
      refine Ex.region (ExL.pures 0 rfl ?_)
      refine ExL.eql rfl rfl rfl rfl rfl rfl (fun h14 => ?_) (fun h14 => ?_)
      · refine ExL.pures 1 rfl ?_
        refine ExL.nil ?_
        refine Ex.cond_t rfl ?_
        refine Ex.region (ExL.pures 1 rfl ?_)
        refine ExL.op rfl (op_mut rfl rfl rfl (c_pick code _ _ (by omega) (by assumption) _ x7.2.1 _ (by omega) 20 (by omega)) (perm_at (i := 1) rfl) (hcode) rfl rfl (fun x15 hx15 => ?_))
        refine ExL.pures 1 rfl ?_
        refine ExL.op rfl (op_storeC (i := 1) rfl rfl rfl rfl rfl rfl rfl rfl rfl rfl ?_)
        refine ExL.nil ?_
        refine Ex.region (ExL.pures 1 rfl ?_)
        refine ExL.free (fr_loadN rfl rfl rfl rfl rfl (SegO.whole (i := 1) rfl)) rfl rfl rfl ?_
        refine ExL.op rfl (op_buildSlice (sz := 2) rfl rfl rfl rfl rfl rfl rfl rfl (by decide) rfl rfl rfl (fun r16 => ?_))
        refine ExL.op rfl (op_append (sz := 2) (bytes := 16) (i := 4) rfl rfl rfl rfl (Reads.row (i := 0) rfl) rfl (fun e => nomatch e) rfl rfl rfl rfl (by constructor <;> first | omega | (unfold maxLen; omega)) rfl rfl (fun A17 cA17 => ?_))
        refine ExL.pures 1 rfl ?_
        refine ExL.nil ?_
        refine Ex.region (ExL.pures 1 rfl ?_)
        refine ExL.free (by first | exact fr_sub64 rfl rfl rfl (by omega) | exact fr_sub rfl rfl rfl) rfl rfl rfl ?_
        refine ExL.pures 1 rfl ?_
        refine ExL.nil ?_
        refine Hand.mk (⟨q.l ++ [⟨([1, 1, 1, 2, 3, 4, 5, 5].getD x7.1 0), x15.1⟩], q.k - 1, x15.2.1, x15.2.2, A17, cA17⟩ : AcS) 6 [1, 4, 5] ⟨(by rw [List.length_append]; rfl), rfl, trivial⟩ ⟨rfl, rfl, rfl, trivial⟩ (by rw [List.length_append, List.flatMap_append]; rfl) rfl (⟨hP.next (by unfold OkJ; dsimp only; omega), by dsimp only; rw [List.length_append, List.length_singleton]; omega, by dsimp only; omega, by dsimp only; omega, by dsimp only; rw [List.length_append, List.length_singleton]; push_cast; omega⟩) (by dsimp only; omega)
      · refine ExL.pures 1 rfl ?_
        refine ExL.nil ?_
        refine Ex.cond_f rfl ?_
        refine Ex.regSeq (ExL.pures 0 rfl ?_)
        refine ExL.eql rfl rfl rfl rfl rfl rfl (fun h19 => ?_) (fun h19 => ?_)
        · refine ExL.pures 1 rfl ?_
          refine ExL.nil ?_
          refine Ex.cond_t rfl ?_
          refine Ex.drawI [0, 2, 3, 4] rfl rfl ?_
          refine ExD.take (i := 0) rfl (by kernel_rfl) (pureVal_ok rfl) ((List.Sublist.cons_cons _ (List.Sublist.cons _ (List.Sublist.refl _)))) rfl rfl rfl ?_
          refine ExD.take (i := 3) rfl (by kernel_rfl) (pureVal_ok rfl) ((List.Sublist.cons_cons _ (List.Sublist.cons _ (List.Sublist.refl _)))) rfl rfl rfl ?_
          refine ExD.take (i := 4) rfl (by kernel_rfl) (fr_load rfl rfl rfl rfl (CellO.blk (i := 3) rfl rfl)) ((List.Sublist.cons_cons _ (List.Sublist.cons _ (List.Sublist.refl _)))) rfl rfl rfl ?_
          refine ExD.op (i := 1) rfl (by kernel_rfl) rfl (op_mut rfl rfl rfl (c_pick code _ _ (by omega) (by assumption) _ x7.2.1 _ (by omega) 30 (by omega)) (perm_at (i := 1) rfl) (hcode) rfl rfl (fun x20 hx20 => ⟨(List.Sublist.cons _ (List.Sublist.refl _)), ?_⟩))
          refine ExD.take (i := 2) rfl (by kernel_rfl) (by first | exact fr_sub64 rfl rfl rfl (by omega) | exact fr_sub rfl rfl rfl) ((List.Sublist.cons _ (List.Sublist.refl _))) rfl rfl rfl ?_
          refine ExD.op (i := 5) rfl (by kernel_rfl) rfl (op_ret rfl rfl rfl (c_l01Size _ (by assumption) _ _ (by first | assumption | omega | (unfold maxLen; omega))) (Reads.get (Reads.old hd)) rfl rfl (fun x21 hx21 => ⟨(List.Sublist.cons _ (List.Sublist.refl _)), ?_⟩))
          refine ExD.take (i := 6) rfl (by kernel_rfl) (by first | exact fr_sub64 rfl rfl rfl (by omega) | exact fr_sub rfl rfl rfl) ((List.Sublist.cons _ (List.Sublist.refl _))) rfl rfl rfl ?_
          refine ExD.op (i := 7) rfl (by kernel_rfl) rfl (op_ret rfl rfl rfl (c_l00Min _ _) (fun _ _ => trivial) rfl rfl (fun x22 hx22 => ⟨(List.Sublist.cons _ (List.Sublist.refl _)), ?_⟩))
          refine ExD.take (i := 8) rfl (by kernel_rfl) (pureVal_ok rfl) ((List.Sublist.cons _ (List.Sublist.refl _))) rfl rfl rfl ?_
          refine ExD.last (i := 9) rfl (by kernel_rfl) (by kernel_rfl) rfl (op_storeC (i := 1) rfl rfl rfl rfl rfl rfl rfl rfl rfl rfl ?_)
          refine ExD.done (by kernel_rfl) ?_
          refine Ex.region (ExL.pures 1 rfl ?_)
          refine ExL.free (fr_loadN rfl rfl rfl rfl rfl (SegO.whole (i := 1) rfl)) rfl rfl rfl ?_
          refine ExL.op rfl (op_buildSlice (sz := 2) rfl rfl rfl rfl rfl rfl rfl rfl (by decide) rfl rfl rfl (fun r23 => ?_))
          refine ExL.op rfl (op_append (sz := 2) (bytes := 16) (i := 4) rfl rfl rfl rfl (Reads.row (i := 0) rfl) rfl (fun e => nomatch e) rfl rfl rfl rfl (by constructor <;> first | omega | (unfold maxLen; omega)) rfl rfl (fun A24 cA24 => ?_))
          refine ExL.pures 1 rfl ?_
          refine ExL.nil ?_
          refine Ex.region (ExL.pures 1 rfl ?_)
          refine ExL.free (by first | exact fr_sub64 rfl rfl rfl (by omega) | exact fr_sub rfl rfl rfl) rfl rfl rfl ?_
          refine ExL.pures 1 rfl ?_
          refine ExL.nil ?_
          refine Hand.mk (⟨q.l ++ [⟨([1, 1, 1, 2, 3, 4, 5, 5].getD x7.1 0), (min (x20.1 - 1) ((size d.stack) - 1))⟩], q.k - 1, x20.2.1, x20.2.2, A24, cA24⟩ : AcS) 6 [1, 4, 5] ⟨(by rw [List.length_append]; rfl), rfl, trivial⟩ ⟨rfl, rfl, rfl, trivial⟩ (by rw [List.length_append, List.flatMap_append]; rfl) rfl (⟨hP.next (by unfold OkJ; dsimp only; omega), by dsimp only; rw [List.length_append, List.length_singleton]; omega, by dsimp only; omega, by dsimp only; omega, by dsimp only; rw [List.length_append, List.length_singleton]; push_cast; omega⟩) (by dsimp only; omega)
        · refine ExL.pures 1 rfl ?_
          refine ExL.nil ?_
          refine Ex.cond_f rfl ?_
          refine Ex.skip ?_
          refine Ex.region (ExL.pures 1 rfl ?_)
          refine ExL.free (fr_loadN rfl rfl rfl rfl rfl (SegO.whole (i := 0) rfl)) rfl rfl rfl ?_
          refine ExL.op rfl (op_buildSlice (sz := 2) rfl rfl rfl rfl rfl rfl rfl rfl (by decide) rfl rfl rfl (fun r26 => ?_))
          refine ExL.op rfl (op_append (sz := 2) (bytes := 16) (i := 4) rfl rfl rfl rfl (Reads.row (i := 0) rfl) rfl (fun e => nomatch e) rfl rfl rfl rfl (by constructor <;> first | omega | (unfold maxLen; omega)) rfl rfl (fun A27 cA27 => ?_))
          refine ExL.pures 1 rfl ?_
          refine ExL.nil ?_
          refine Ex.region (ExL.pures 1 rfl ?_)
          refine ExL.free (by first | exact fr_sub64 rfl rfl rfl (by omega) | exact fr_sub rfl rfl rfl) rfl rfl rfl ?_
          refine ExL.pures 1 rfl ?_
          refine ExL.nil ?_
          refine Hand.mk (⟨q.l ++ [⟨([1, 1, 1, 2, 3, 4, 5, 5].getD x7.1 0), 0⟩], q.k - 1, x7.2.1, x7.2.2, A27, cA27⟩ : AcS) 6 [2, 4, 5] ⟨(by rw [List.length_append]; rfl), rfl, trivial⟩ ⟨rfl, rfl, rfl, trivial⟩ (by rw [List.length_append, List.flatMap_append]; rfl) rfl (⟨hP.next (by unfold OkJ; dsimp only; omega), by dsimp only; rw [List.length_append, List.length_singleton]; omega, by dsimp only; omega, by dsimp only; omega, by dsimp only; rw [List.length_append, List.length_singleton]; push_cast; omega⟩) (by dsimp only; omega)
  · refine ExL.nil ?_
    refine Ex.cond_f rfl ?_
    refine Ex.exit ?_
    refine Ex.regSeq (ExL.pures 2 rfl ?_)
    refine ExL.nil ?_
    refine Ex.ret ?_
    refine RetQ.mk ((q.A, q.c), q.l) rfl (.tmp rfl .nil) (rfl) [1] (rfl) rfl (⟨by dsimp only; omega, hP⟩)
end Go.Proofs.YthabjnhfhmbamaaGreatDoor

/- What these functions of the program hand back, each proved by walking its operations. -/
set_option linter.unusedVariables false
set_option linter.unusedSimpArgs false
set_option maxRecDepth 4000
namespace Go.Proofs.YthabjnhfhmbamaaGreatDoor
open Go Go.Sx Go.RowKit Go.W Go.Proofs
attribute [local irreducible] Ex ExL ExD Op1 Free RetQ MutQ Reads CellO SegO LoadsAs
theorem e_14 : Enters Tryz.prog 14 := Enters.of Tryz.func14 rfl
theorem c_SameActs (s : List VAct) (As : Option Addr) (cs : Nat) (hls : s.length ≤ maxLen) (At : Option Addr) (ct : Nat) : Ret Tryz.prog 14 [.slice As s.length cs, .slice At s.length ct] (fun w => Rd w As (s.flatMap encA) ∧ Rd w At (s.flatMap encA)) (fun x : Unit => .bool true) (fun x => []) (fun x => True) := by
  refine Ret.of e_14 Tryz.func14 rfl Tryz.ntmps14 rfl rfl (fun w hpre => ?_)
  have hs := hpre.1.base
  have ht := hpre.2.base
  have hm0 : maxLen = 9223372036854775807 := rfl
  refine Ex.regSeq (ExL.pures 1 rfl ?_)
  refine ExL.nil ?_
  refine Ex.seq ?_
  refine Ex.regSeq (ExL.pures 4 rfl ?_)
  refine ExL.free (fr_neq_f rfl rfl rfl (fun h => h rfl)) rfl rfl rfl ?_
  refine ExL.nil ?_
  refine Ex.cond_f rfl ?_
  refine Ex.skip ?_
  refine Ex.seq ?_
  refine Ex.regSeq (ExL.pures 1 rfl ?_)
  refine ExL.nil ?_
  refine Ex.block ?_
  refine Ex.loopK (X := Nat) (fun k => [(5, .int .i64 k)]) (fun k => []) (fun k => k ≤ s.length) (fun k => s.length - k) 0 [(0, _), (1, _)] [] 0 [] ⟨rfl, trivial⟩ ⟨rfl, rfl, trivial⟩ (rfl) rfl (Nat.zero_le _) (fun k hI => ?_)
  have hI : k ≤ s.length := hI
  refine Ex.seq ?_
  refine Ex.regSeq (ExL.pures 3 rfl ?_)
  refine ExL.lss rfl rfl rfl rfl rfl rfl (fun h1 => ?_) (fun h1 => ?_)
  · refine ExL.nil ?_
    refine Ex.cond_t rfl ?_
    refine Ex.skip ?_
    refine Ex.seq ?_
    refine Ex.block ?_
    refine Ex.drawSeqM rfl ?_
    refine ExD.take (i := 0) rfl (by kernel_rfl) (pureVal_ok rfl) ((List.Sublist.refl _)) rfl rfl rfl ?_
    refine ExD.take (i := 1) rfl (by kernel_rfl) (pureVal_ok rfl) ((List.Sublist.refl _)) rfl rfl rfl ?_
    refine ExD.take (i := 2) rfl (by kernel_rfl) (fr_indexAddrF (Reads.old hs) encA_len rfl rfl rfl rfl rfl rfl (by omega)) ((List.Sublist.refl _)) rfl rfl rfl ?_
    refine ExD.take (i := 3) rfl (by kernel_rfl) (fr_loadN rfl rfl rfl rfl rfl (by first | exact segN (Reads.old hs) encA_len rfl zA (by omega) | exact segF (Reads.old hs) encA_len rfl zA (by omega))) ((List.Sublist.refl _)) rfl rfl rfl ?_
    refine ExD.take (i := 4) rfl (by kernel_rfl) (pureVal_ok rfl) ((List.Sublist.refl _)) rfl rfl rfl ?_
    refine ExD.take (i := 5) rfl (by kernel_rfl) (pureVal_ok rfl) ((List.Sublist.refl _)) rfl rfl rfl ?_
    refine ExD.take (i := 6) rfl (by kernel_rfl) (fr_indexAddrF (Reads.old ht) encA_len rfl rfl rfl rfl rfl rfl (by omega)) ((List.Sublist.refl _)) rfl rfl rfl ?_
    refine ExD.take (i := 7) rfl (by kernel_rfl) (fr_loadN rfl rfl rfl rfl rfl (by first | exact segN (Reads.old ht) encA_len rfl zA (by omega) | exact segF (Reads.old ht) encA_len rfl zA (by omega))) ((List.Sublist.refl _)) rfl rfl rfl ?_
    refine ExD.take (i := 8) rfl (by kernel_rfl) (fr_neq_rec (eq_Act 9998 (s.getD k zA) (s.getD k zA)) rfl rfl rfl (by kernel_rfl)) ((List.Sublist.refl _)) rfl rfl rfl ?_
    refine ExD.done (by kernel_rfl) ?_
    refine Ex.cond rfl (fun hb2 => ?_) (fun hb2 => ?_)
    · refine Ex.regSeq (ExL.pures 1 rfl ?_)
      refine ExL.nil ?_
      refine Ex.ret ?_
      refine RetQ.mk () rfl (.tmp rfl .nil) (tB (by first | rfl | (exfalso; simp_all [sameA_refl]; done))) [] (rfl) rfl (trivial)
    · refine Ex.skip ?_
      refine Ex.region (ExL.pures 1 rfl ?_)
      refine ExL.free (by first | exact fr_add64 rfl rfl rfl (by omega) | exact fr_add rfl rfl rfl) rfl rfl rfl ?_
      refine ExL.pures 1 rfl ?_
      refine ExL.nil ?_
      refine Hand.mk (k + 1) 0 [] ⟨rfl, trivial⟩ ⟨rfl, rfl, trivial⟩ (rfl) rfl (by omega) (by omega)
  · refine ExL.nil ?_
    refine Ex.cond_f rfl ?_
    refine Ex.exit ?_
    refine Ex.regSeq (ExL.pures 1 rfl ?_)
    refine ExL.nil ?_
    refine Ex.ret ?_
    refine RetQ.mk () rfl (.tmp rfl .nil) (tB (by first | rfl | (exfalso; simp_all [sameA_refl]; done))) [] (rfl) rfl (trivial)
theorem e_23 : Enters Tryz.prog 23 := Enters.of Tryz.func23 rfl
theorem c_ValueOf (s : List Int) (hv : validStack s = true) (hu : Nums 255 s) (As : Option Addr) (cs : Nat) (a : Dig) (hd0 : validDig s a.l = true) (ha : Nums 255 a.l) : Ret Tryz.prog 23 [.slice As s.length cs, .agg (encD a).toArray] (fun w => Rd w As (s.flatMap (eI .u8))) (fun x : Unit => .tuple #[.int .i64 (val s a.l), .int .i64 0]) (fun x => []) (fun x => True) := by
  refine Ret.of e_23 Tryz.func23 rfl Tryz.ntmps23 rfl rfl (fun w hpre => ?_)
  have hs := hpre.base
  have hS := stk hv
  have h8 := hS.len8
  have hm0 : maxLen = 9223372036854775807 := rfl
  refine Ex.regSeq (ExL.pures 0 rfl ?_)
  refine ExL.op rfl (op_box rfl rfl rfl rfl rfl (fun b1 => ?_))
  refine ExL.pures 2 rfl ?_
  refine ExL.nil ?_
  refine Ex.seq ?_
  refine Ex.regSeq (ExL.pures 1 rfl ?_)
  refine ExL.free (fr_loadN rfl rfl rfl rfl rfl (SegO.whole (i := 0) rfl)) rfl rfl rfl ?_
  refine ExL.op rfl (op_ret rfl rfl rfl (c_iValidDigits s (by assumption) _ _ (by omega) a (by assumption)) (Reads.get (Reads.old hs)) rfl rfl (fun x2 hx2 => ?_))
  refine ExL.pures 1 rfl ?_
  refine ExL.nil ?_
  refine Ex.cond rfl (fun hb3 => ?_) (fun hb3 => ?_)
  · replace hb3 := nb_t hb3
    refine Ex.regSeq (ExL.pures 2 rfl ?_)
    refine ExL.nil ?_
    refine Ex.ret ?_
    refine RetQ.mk () rfl (.tmp rfl (.tmp rfl .nil)) (t2 (by first | rfl | (exfalso; simp_all; done)) (by first | rfl | (exfalso; simp_all; done))) [] (rfl) rfl (trivial)
  · replace hb3 := nb_f hb3
    refine Ex.skip ?_
    refine Ex.regSeq (ExL.pures 1 rfl ?_)
    refine ExL.free (fr_loadN rfl rfl rfl rfl rfl (SegO.whole (i := 0) rfl)) rfl rfl rfl ?_
    refine ExL.op rfl (op_ret rfl rfl rfl (c_value s (by first | assumption | simp_all) _ _ a (by assumption) (by first | assumption | simp_all)) (Reads.get (Reads.old hs)) rfl rfl (fun x4 hx4 => ?_))
    refine ExL.pures 2 rfl ?_
    refine ExL.nil ?_
    refine Ex.ret ?_
    refine RetQ.mk () rfl (.tmp rfl (.tmp rfl .nil)) (t2 (by first | rfl | (exfalso; simp_all; done)) (by first | rfl | (exfalso; simp_all; done))) [] (rfl) rfl (trivial)
end Go.Proofs.YthabjnhfhmbamaaGreatDoor

/- The texts of a ticket and of a log. -/
set_option linter.unusedVariables false
namespace Go.W
open Go Go.Sx
def ticT (s : List Int) (t : VTic) : List UInt8 := Lib.itoa t.number ++ [32] ++ digT s t.shows.l ++ [32] ++ Lib.itoa t.check
def ticTx (s : List Int) (t : VTic) : List UInt8 := if validStack s = true ∧ genT s t = true then ticT s t else []
theorem ticTx_0 {s : List Int} {t : VTic} (h : validStack s = false) : ticTx s t = [] := if_neg (by simp [h])
theorem ticTx_1 {s : List Int} {t : VTic} (h : genT s t = false) : ticTx s t = [] := if_neg (by simp [h])
theorem ticTx_t {s : List Int} {t : VTic} (h : validStack s = true) (h1 : genT s t = true) : ticTx s t = ticT s t := if_pos ⟨h, h1⟩
theorem gen_of {s : List Int} {t : VTic} (h : genT s t = true) : (1 ≤ t.number ∧ t.number ≤ 1000000) ∧ validDig s t.shows.l = true ∧ t.check = check t.number t.shows.l := of_decide_eq_true h
def dsv (s : List Int) (v : Int) : List Int := (dig (digs s v)).l
def logLn (s : List Int) (x : VP) : List UInt8 := Lib.itoa x.a ++ [32] ++ digT s (dsv s x.b) ++ [10]
def lText (s : List Int) (l : List VP) (k : Nat) : List UInt8 := joinT (fun i => logLn s (l.getD i zP)) k
def logTx (s : List Int) (l : List VP) : List UInt8 := if validLog s l = true then lText s l l.length else []
theorem logTx_f {s : List Int} {l : List VP} (h : validLog s l = false) : logTx s l = [] := if_neg (by simp [h])
theorem logTx_t {s : List Int} {l : List VP} (h : validLog s l = true) : logTx s l = lText s l l.length := if_pos h
theorem dsv_num {s : List Int} (h : Stk s) (v : Int) : Nums 255 (dsv s v) := by unfold dsv; rw [dig_l (digs_len _ _)]; exact digs_num h.bases
theorem dsv_valid {s : List Int} (h : Stk s) (v : Int) : validDig s (dsv s v) = true := by unfold dsv; rw [dig_l (digs_len _ _)]; exact digs_valid h
theorem dsv_tx {s : List Int} (hv : validStack s = true) (v : Int) : digTx s (dsv s v) = digT s (dsv s v) := digTx_t (by rw [hv, dsv_valid (stk hv)]; rfl)
theorem dsv_le {s : List Int} (hv : validStack s = true) (v : Int) : (digT s (dsv s v)).length ≤ 24 := digT_le (stk hv) (digOk (stk hv).len8 (dsv_num (stk hv) v) (dsv_valid (stk hv) v))
theorem lText_le {s : List Int} {l : List VP} (hv : validStack s = true) (hl : l.length ≤ 1000) (hd : ∀ i, i < l.length → -9223372036854775808 ≤ (l.getD i zP).a ∧ (l.getD i zP).a ≤ 9223372036854775807) {k : Nat} (hk : k ≤ l.length) : (lText s l k).length ≤ 46000 := by
  have h1 := joinT_le (f := fun i => logLn s (l.getD i zP)) (B := 46) k fun i hi => by
    have h2 := itoa_le (hd i (by omega))
    have h3 := dsv_le hv (l.getD i zP).b
    simp only [logLn, List.length_append, List.length_cons, List.length_nil]
    omega
  unfold lText
  omega
theorem lText_pos {s : List Int} {l : List VP} {k : Nat} (hk : 0 < k) : lText s l k ≠ [] := by
  have := joinT_pos (f := fun i => logLn s (l.getD i zP)) (fun i => by simp only [logLn, List.length_append, List.length_cons, List.length_nil]; omega) k hk
  intro h
  unfold lText at h
  rw [h] at this
  simp at this
theorem lText_s (s : List Int) (l : List VP) (k : Nat) : lText s l (k + 1) = lText s l k ++ (Lib.itoa (l.getD k zP).a ++ [32] ++ digT s (dsv s (l.getD k zP).b) ++ [10]) := rfl
end Go.W

/- Digits read from their texts: digits are read iff the text is theirs. -/
set_option linter.unusedVariables false
set_option linter.unusedSimpArgs false
namespace Go.W
open Go Go.Sx
theorem parse_digitsM {M : Nat} (hM : M ≤ 2 ^ 64 - 1) : ∀ (l : List UInt8) (a : Nat), (∀ c ∈ l, isDig c) → numF a l ≤ M → Lib.parseUintM M a l = .ok (numF a l)
  | [], a, _, _ => rfl
  | c :: r, a, hd, hn => by
    have hc : isDig c := hd c (by simp)
    have e : numF a (c :: r) = numF (10 * a + (c.toNat - 48)) r := rfl
    rw [e] at hn ⊢
    have hg := numF_ge r (10 * a + (c.toNat - 48))
    unfold isDig at hc
    rw [Lib.parseUintM, if_pos hc, if_neg (by omega), if_neg (by omega), Nat.mul_comm a 10]
    exact parse_digitsM hM r _ (fun x hx => hd x (List.mem_cons_of_mem _ hx)) hn
/-- What a digit's text is. -/
theorem dgT_dig {b d : Int} (h : 0 ≤ d) : ∀ c ∈ dgT b d, isDig c := fun c hc => by
  have hk := (itoa_ok _ d rfl h).1.2.1
  unfold dgT at hc
  split at hc
  · rw [List.mem_cons] at hc
    rcases hc with rfl | hc
    · exact ⟨by decide, by decide⟩
    · exact hk c hc
  · exact hk c hc
theorem dgT_val {b d : Int} (h : 0 ≤ d) : (numV (dgT b d) : Int) = d := by
  have hv := (itoa_ok _ d rfl h).2
  unfold dgT
  split
  · show ((numV (48 :: Lib.itoa d) : Nat) : Int) = d
    have e : numV (48 :: Lib.itoa d) = numV (Lib.itoa d) := rfl
    rw [e]; exact hv
  · exact hv
theorem dgT_ne {b d : Int} : dgT b d ≠ [] := fun e => by
  have := dgT_pos b d
  rw [e] at this
  simp at this
theorem dgT_inj {b d e : Int} (h : 0 ≤ d) (h1 : 0 ≤ e) (h2 : dgT b d = dgT b e) : d = e := by
  have a := dgT_val (b := b) h
  have c := dgT_val (b := b) h1
  rw [h2, c] at a
  exact a.symm
/-- A text that ParseUint reads as a number of seven bits. -/
def U7 (t : List UInt8) (u : Int) : Prop := 0 ≤ u ∧ u ≤ 127 ∧ Lib.parseUintB 7 t = .ok u.toNat
theorem dgT_U7 {b d : Int} (h : 0 ≤ d) (h1 : d ≤ 127) : U7 (dgT b d) d := by
  refine ⟨h, h1, ?_⟩
  have hv := dgT_val (b := b) h
  unfold Lib.parseUintB
  rw [if_neg dgT_ne]
  have e : numF 0 (dgT b d) = numV (dgT b d) := rfl
  rw [parse_digitsM (by decide) _ 0 (dgT_dig h) (by rw [e]; omega), e]
  congr 1
  omega
theorem U7_one {t : List UInt8} {u v : Int} (h : U7 t u) (h1 : U7 t v) : u = v := by
  obtain ⟨a, b, c⟩ := h
  obtain ⟨d, e, f⟩ := h1
  rw [c] at f
  injection f with f
  omega
/-- No digits have this text. -/
def NoDig (s : List Int) (t : List UInt8) : Prop := ∀ d : Dig, Nums 255 d.l → validDig s d.l = true → digT s d.l ≠ t
theorem dg_no {b d : Int} {c : UInt8} (h : 0 ≤ d) (hc : c.toNat < 48 ∨ 57 < c.toNat) : c ∉ dgT b d := fun hm => by
  have := dgT_dig h c hm
  unfold isDig at this
  omega
theorem dig_parts {s : List Int} {d : List Int} (hs : Stk s) (hd : DigOk s d) : splitA 58 [] (digT s d) = partsF (dpart s d) s.length := by
  unfold digT
  refine split_join _ (by intro e; have h1 := congrArg List.length e; rw [partsF_len] at h1; have h2 := hs.len1; rw [List.length_nil] at h1; omega) fun x hx => ?_
  obtain ⟨i, hi, rfl⟩ := List.mem_map.1 hx
  have hi := List.mem_range.1 hi
  have h2 := hd (s.length - 1 - i) (by omega)
  exact dg_no h2.1 (.inr (by decide))
theorem parts_getD (f : Nat → List UInt8) {k i : Nat} (h : i < k) : (partsF f k).getD i [] = f i := by
  simp [partsF, List.getD, h]
/-- The word that a digit has. -/
theorem dig_word {s : List Int} {t : List UInt8} {d : Dig} (hs : Stk s) (hn : Nums 255 d.l) (hv : validDig s d.l = true) (ht : digT s d.l = t) {j : Nat} (hj : j < s.length) : (splitA 58 [] t).getD (s.length - 1 - j) [] = dgT (s.getD j 0) (d.l.getD j 0) ∧ 0 ≤ d.l.getD j 0 ∧ d.l.getD j 0 < s.getD j 0 ∧ s.getD j 0 ≤ 100 := by
  have hd := digOk hs.len8 hn hv
  rw [← ht, dig_parts hs hd, parts_getD _ (by omega)]
  have h2 := hd j hj
  have h3 := hs.bases j hj
  refine ⟨?_, h2.1, h2.2, h3.2⟩
  unfold dpart
  rw [show s.length - 1 - (s.length - 1 - j) = j by omega]
theorem ndg_len {s : List Int} {t : List UInt8} (hs : Stk s) (h : (splitA 58 [] t).length ≠ s.length) : NoDig s t := fun d hn hv ht => by
  rw [← ht, dig_parts hs (digOk hs.len8 hn hv), partsF_len] at h
  exact h rfl
theorem ndg_byte {s : List Int} {t : List UInt8} {j k : Nat} (hs : Stk s) (hj : j < s.length) (hk : k < ((splitA 58 [] t).getD (s.length - 1 - j) []).length) (h : ¬ isDig (((splitA 58 [] t).getD (s.length - 1 - j) []).getD k 0)) : NoDig s t := fun d hn hv ht => by
  obtain ⟨h1, h2, h3, h4⟩ := dig_word hs hn hv ht hj
  rw [h1] at hk h
  refine h (dgT_dig (b := s.getD j 0) h2 _ ?_)
  generalize dgT (s.getD j 0) (d.l.getD j 0) = x at hk ⊢
  simp [List.getD, hk]
theorem ndg_big {s : List Int} {t : List UInt8} {j : Nat} {n : Int} (hs : Stk s) (hj : j < s.length) (hn : n = (numV (((splitA 58 [] t).getD (s.length - 1 - j) []).take 3) : Int)) (h : ¬ (n < s.getD j 0 ∧ dgT (s.getD j 0) n = (splitA 58 [] t).getD (s.length - 1 - j) [])) : NoDig s t := fun d hnu hv ht => by
  obtain ⟨h1, h2, h3, h4⟩ := dig_word hs hnu hv ht hj
  have hl := dgT_le (b := s.getD j 0) h2 (by omega)
  rw [h1, List.take_of_length_le (by omega), dgT_val h2] at hn
  subst hn
  exact h ⟨h3, h1.symm⟩
theorem ndg_err {s : List Int} {t : List UInt8} {j : Nat} (hs : Stk s) (hj : j < s.length) (h : ∀ u, ¬ U7 ((splitA 58 [] t).getD (s.length - 1 - j) []) u) : NoDig s t := fun d hn hv ht => by
  obtain ⟨h1, h2, h3, h4⟩ := dig_word hs hn hv ht hj
  rw [h1] at h
  exact h _ (dgT_U7 h2 (by omega))
/-- The digits of the places below k are as told, and all others nought. -/
def DigB (s : List Int) (t : List UInt8) (d : List Int) (k : Nat) : Prop := ∀ j, j < 8 → (j < k → dgT (s.getD j 0) (d.getD j 0) = (splitA 58 [] t).getD (s.length - 1 - j) [] ∧ 0 ≤ d.getD j 0 ∧ d.getD j 0 < s.getD j 0) ∧ (k ≤ j → d.getD j 0 = 0)
theorem digB_0 (s : List Int) (t : List UInt8) : DigB s t [0, 0, 0, 0, 0, 0, 0, 0] 0 := fun j hj => ⟨fun h => by omega, fun _ => by
  rcases j with _ | _ | _ | _ | _ | _ | _ | _ | j <;> first | rfl | omega⟩
theorem digB_s {s : List Int} {t : List UInt8} {d : List Int} {k : Nat} {n : Int} (hl : d.length = 8) (hk : k < 8) (h : DigB s t d k) (h0 : 0 ≤ n) (h1 : n < s.getD k 0) (h2 : dgT (s.getD k 0) n = (splitA 58 [] t).getD (s.length - 1 - k) []) : DigB s t (d.set k n) (k + 1) := fun j hj => by
  by_cases e : j = k
  · subst e
    have e1 : (d.set j n).getD j 0 = n := by simp [List.getD, hl, hj]
    rw [e1]
    exact ⟨fun _ => ⟨h2, h0, h1⟩, fun h => by omega⟩
  · have e1 : (d.set k n).getD j 0 = d.getD j 0 := by simp [List.getD, List.getElem?_set, Ne.symm e]
    rw [e1]
    exact ⟨fun hjk => (h j hj).1 (by omega), fun hjk => (h j hj).2 (by omega)⟩
/-- Digits that are as told at all places have the text. -/
theorem digB_end {s : List Int} {t : List UInt8} {d : List Int} (hs : Stk s) (hl : (splitA 58 [] t).length = s.length) (h : DigB s t d s.length) : validDig s d = true ∧ digT s d = t := by
  have h8 := hs.len8
  constructor
  · unfold validDig
    rw [List.all_eq_true]
    intro j hj
    have hj : j < 8 := List.mem_range.1 hj
    unfold goodAt
    by_cases hjs : j < s.length
    · rw [if_pos hjs, decide_eq_true_iff]; exact ((h j hj).1 hjs).2.2
    · rw [if_neg hjs, decide_eq_true_iff]; exact (h j hj).2 (by omega)
  · have hj := join_split 58 t []
    rw [List.nil_append] at hj
    rw [← hj]
    unfold digT
    congr 1
    apply List.ext_getElem
    · rw [partsF_len, hl]
    · intro i h1 h2
      rw [partsF_len] at h1
      have h3 := ((h (s.length - 1 - i) (by omega)).1 (by omega)).1
      rw [show s.length - 1 - (s.length - 1 - i) = i by omega] at h3
      have h4 : (partsF (dpart s d) s.length)[i] = dpart s d i := by simp [partsF]
      rw [h4]
      unfold dpart
      rw [h3]
      simp [List.getD, h2]
theorem key9 {d e : Dig} {j : Nat} (h1 : d.l.getD j 0 = e.l.getD j 0) (h3 : j < d.l.length) (h4 : j < e.l.length) : d.l[j] = e.l[j] := by
  unfold List.getD at h1
  rw [List.getElem?_eq_getElem h3, List.getElem?_eq_getElem h4] at h1
  exact h1
theorem dig_one {s : List Int} {d e : Dig} (hs : Stk s) (hd : Nums 255 d.l) (he : Nums 255 e.l) (h1 : validDig s d.l = true) (h2 : validDig s e.l = true) (h : digT s d.l = digT s e.l) : d = e := by
  apply dig_inj
  apply List.ext_getElem ((dig_len _).trans (dig_len _).symm)
  intro j h30 h4
  have h3 : j < 8 := h30
  have key : d.l.getD j 0 = e.l.getD j 0 := by
    by_cases hj : j < s.length
    · obtain ⟨a1, a2, _⟩ := dig_word hs hd h1 h hj
      obtain ⟨b1, b2, _⟩ := dig_word hs he h2 rfl hj
      exact dgT_inj a2 b2 (a1.symm.trans b1)
    · have f : ∀ {x : Dig}, validDig s x.l = true → x.l.getD j 0 = 0 := fun {x} hx => by
        unfold validDig at hx
        rw [List.all_eq_true] at hx
        have := hx j (List.mem_range.2 h3)
        unfold goodAt at this
        rwa [if_neg hj, decide_eq_true_iff] at this
      rw [f h1, f h2]
  exact key9 key h30 h4
/-- The parts of the places from the top down are numbers of seven bits: the digits that the program lays. -/
def DigU (s : List Int) (t : List UInt8) (d : List Int) (k : Nat) : Prop := ∀ j, j < 8 → (s.length - k ≤ j → j < s.length → U7 ((splitA 58 [] t).getD (s.length - 1 - j) []) (d.getD j 0)) ∧ ((j < s.length - k ∨ s.length ≤ j) → d.getD j 0 = 0)
theorem digU_0 (s : List Int) (t : List UInt8) : DigU s t [0, 0, 0, 0, 0, 0, 0, 0] 0 := fun j hj => ⟨fun h => by omega, fun _ => by
  rcases j with _ | _ | _ | _ | _ | _ | _ | _ | j <;> first | rfl | omega⟩
theorem digU_s {s : List Int} {t : List UInt8} {d : List Int} {k q : Nat} {n : Int} (hl : d.length = 8) (hs : s.length ≤ 8) (hk : k < s.length) (hq : q = s.length - 1 - k) (h : DigU s t d k) (h0 : U7 ((splitA 58 [] t).getD k []) n) : DigU s t (d.set q n) (k + 1) := fun j hj => by
  subst hq
  by_cases e : j = s.length - 1 - k
  · subst e
    have e1 : (d.set (s.length - 1 - k) n).getD (s.length - 1 - k) 0 = n := by simp [List.getD, hl, hj]
    rw [e1]
    exact ⟨fun _ _ => by rw [show s.length - 1 - (s.length - 1 - k) = k by omega]; exact h0, fun h => by omega⟩
  · have e1 : (d.set (s.length - 1 - k) n).getD j 0 = d.getD j 0 := by simp [List.getD, List.getElem?_set, Ne.symm e]
    rw [e1]
    exact ⟨fun a b => (h j hj).1 (by omega) b, fun a => (h j hj).2 (by omega)⟩
/-- The program's digits do not have the text: none do. -/
theorem ndg_end {s : List Int} {t : List UInt8} {d : Dig} (hv : validStack s = true) (hd : DigU s t d.l s.length) (h : digTx s d.l ≠ t) : NoDig s t := fun e hn hve ht => by
  have hs := stk hv
  have he : d = e := by
    apply dig_inj
    apply List.ext_getElem ((dig_len _).trans (dig_len _).symm)
    intro j h30 h4
    have h3 : j < 8 := h30
    have key : d.l.getD j 0 = e.l.getD j 0 := by
      by_cases hj : j < s.length
      · obtain ⟨a1, a2, a3, a4⟩ := dig_word hs hn hve ht hj
        have := (hd j h3).1 (by omega) hj
        rw [a1] at this
        exact U7_one this (dgT_U7 a2 (by omega))
      · have := (hd j h3).2 (.inr (by omega))
        rw [this]
        unfold validDig at hve
        rw [List.all_eq_true] at hve
        have := hve j (List.mem_range.2 h3)
        unfold goodAt at this
        rw [if_neg hj, decide_eq_true_iff] at this
        exact this.symm
    exact key9 key h30 h4
  subst he
  exact h (by rw [digTx_t (by rw [hv, hve]; rfl)]; exact ht)
def dig0 : Dig := ⟨0, 0, 0, 0, 0, 0, 0, 0⟩
/-- What is read of a text: the digits, and 0; or none, and 5. -/
def DigRd (s : List Int) (t : List UInt8) (x : Dig × Int) : Prop := Nums 255 x.1.l ∧ ((x.2 = 0 ∧ validDig s x.1.l = true ∧ digT s x.1.l = t) ∨ (x.2 = 5 ∧ x.1 = dig0 ∧ NoDig s t))
theorem digRd_one {s : List Int} {t : List UInt8} {x y : Dig × Int} (hs : Stk s) (hx : DigRd s t x) (hy : DigRd s t y) : x = y := by
  obtain ⟨nx, hx⟩ := hx
  obtain ⟨ny, hy⟩ := hy
  rcases hx with ⟨a1, a2, a3⟩ | ⟨a1, a2, a3⟩
  · rcases hy with ⟨b1, b2, b3⟩ | ⟨b1, b2, b3⟩
    · exact Prod.ext (dig_one hs nx ny a2 b2 (a3.trans b3.symm)) (a1.trans b1.symm)
    · exact absurd a3 (b3 x.1 nx a2)
  · rcases hy with ⟨b1, b2, b3⟩ | ⟨b1, b2, b3⟩
    · exact absurd b3 (a3 y.1 ny b2)
    · exact Prod.ext (a2.trans b2.symm) (a1.trans b1.symm)
end Go.W

/- What the readers of digits carry on. -/
set_option linter.unusedVariables false
set_option linter.unusedSimpArgs false
namespace Go.Sx
open Go Go.RowKit
variable {C : Cx} {env env' : Env} {m m' : List Ent} {o : Oper} {K : Env → List Ent → Prop}
theorem fr_sub64J {T x y T' p q} (j : Nat) (ho : o.op = .binOp .sub T x y T') (hx : ev env x = some (.int .i64 p)) (hy : ev env y = some (.int .i64 q)) (h : p - q = (j : Int)) (hj : j ≤ 4611686018427387904) : Free C o env m (.int .i64 (j : Int)) := by
  have := fr_sub64 (C := C) (m := m) ho hx hy (by omega)
  rwa [h] at this
theorem set_put {α : Type} {f : α → List Value} {sz : Nat} (hf : ∀ x, (f x).length = sz) (xs : List α) (k : Nat) (y : α) (h : k < xs.length) {i : Nat} (hi : i = k * sz) {v : List Value} (hv : v = f y) : put (xs.flatMap f) i v = (xs.set k y).flatMap f := by
  subst hi hv
  exact flat_put hf xs k y h
end Go.Sx
namespace Go.W
open Go Go.Sx
/-- Digits laid so far. -/
structure DgS where
  k : Nat
  d : List Int
def zeros8 : List Int := [0, 0, 0, 0, 0, 0, 0, 0]
theorem nums_set {d : List Int} (h : Nums 255 d) {i : Nat} {n : Int} (hn : 0 ≤ n ∧ n ≤ 255) : Nums 255 (d.set i n) := fun x hx => by
  rcases List.mem_or_eq_of_mem_set hx with h1 | h1
  · exact h x h1
  · subst h1; exact hn
theorem nums_z : Nums 255 zeros8 := fun x hx => by
  simp only [zeros8, List.mem_cons, List.not_mem_nil, or_false, or_self] at hx
  subst hx
  exact ⟨by decide, by decide⟩
theorem take3 {w : List UInt8} {j : Nat} (h : j ≤ 3) (h1 : j = w.length ∨ j = 3) : w.take j = w.take 3 := by
  rcases h1 with rfl | rfl
  · rw [List.take_length, List.take_of_length_le h]
  · rfl
/-- The digits that the specification reads, if there are any. -/
def L01 (s : List Int) (t : List UInt8) (x : Dig × Bool) : Prop := Nums 255 x.1.l ∧ ((x.2 = true ∧ validDig s x.1.l = true ∧ digT s x.1.l = t) ∨ (x.2 = false ∧ NoDig s t))
theorem l01_no {s : List Int} {t : List UInt8} (h : NoDig s t) : L01 s t (dig0, false) := ⟨nums_z, .inr ⟨rfl, h⟩⟩
theorem l01_yes {s : List Int} {t : List UInt8} {d : List Int} (hs : Stk s) (h8 : d.length = 8) (hn : Nums 255 d) (hl : (splitA 58 [] t).length = s.length) (h : DigB s t d s.length) : L01 s t (dig d, true) := by
  have := digB_end hs hl h
  unfold L01
  rw [dig_l h8]
  exact ⟨hn, .inl ⟨rfl, this⟩⟩
/-- What is read of a text for a stack, a valid one or not. -/
def RdDig (s : List Int) (t : List UInt8) (x : Dig × Int) : Prop := (validStack s = false ∧ x = (dig0, 1)) ∨ (validStack s = true ∧ DigRd s t x)
theorem rdDig_one {s : List Int} {t : List UInt8} {x y : Dig × Int} (hx : RdDig s t x) (hy : RdDig s t y) : x = y := by
  rcases hx with ⟨a, rfl⟩ | ⟨a, hx⟩
  · rcases hy with ⟨_, rfl⟩ | ⟨b, _⟩
    · rfl
    · rw [a] at b; cases b
  · rcases hy with ⟨b, _⟩ | ⟨b, hy⟩
    · rw [a] at b; cases b
    · exact digRd_one (stk a) hx hy
theorem rdDig_num {s : List Int} {t : List UInt8} {x : Dig × Int} (hx : RdDig s t x) : Nums 255 x.1.l := by
  rcases hx with ⟨_, rfl⟩ | ⟨_, hx⟩
  · exact nums_z
  · exact hx.1
theorem rdDig_v {s : List Int} {t : List UInt8} (h : validStack s = false) : RdDig s t (dig0, 1) := .inl ⟨h, rfl⟩
theorem rdDig_no {s : List Int} {t : List UInt8} (h : validStack s = true) (h1 : NoDig s t) : RdDig s t (dig0, 5) := .inr ⟨h, nums_z, .inr ⟨rfl, rfl, h1⟩⟩
theorem rdDig_f {s : List Int} {t : List UInt8} {x : Dig × Bool} (h : validStack s = true) (h1 : L01 s t x) (h2 : x.2 = false) : RdDig s t (dig0, 5) := by
  rcases h1.2 with ⟨e, _⟩ | ⟨_, e⟩
  · rw [h2] at e; cases e
  · exact rdDig_no h e
theorem rdDig_t {s : List Int} {t : List UInt8} {x : Dig × Bool} (h : validStack s = true) (h1 : L01 s t x) (h2 : x.2 = true) : RdDig s t (x.1, 0) := by
  rcases h1.2 with ⟨_, e⟩ | ⟨e, _⟩
  · exact .inr ⟨h, h1.1, .inl ⟨rfl, e⟩⟩
  · rw [h2] at e; cases e
/-- The program's digits have the text: they are valid. -/
theorem rdDig_i {s : List Int} {t : List UInt8} {d : List Int} (h : validStack s = true) (h8 : d.length = 8) (hn : Nums 255 d) (hl : (splitA 58 [] t).length = s.length) (hd : DigU s t d s.length) (ht : digTx s (dig d).l = t) : RdDig s t (dig d, 0) := by
  refine .inr ⟨h, ?_⟩
  unfold DigRd
  rw [dig_l h8] at ht ⊢
  refine ⟨hn, .inl ⟨rfl, ?_⟩⟩
  cases hv : validDig s d
  · exfalso
    rw [digTx_f (by rw [h, hv]; rfl)] at ht
    subst ht
    have hs := stk h
    have h1 := hs.len1
    have hl : [[]].length = s.length := hl
    simp only [List.length_cons, List.length_nil] at hl
    have h2 := (hd 0 (by omega)).1 (by omega) (by omega)
    rw [show s.length - 1 - 0 = 0 by omega] at h2
    have h3 : U7 [] (d.getD 0 0) := h2
    have h4 := h3.2.2
    exact absurd h4 (by simp [Lib.parseUintB])
  · exact ⟨rfl, by rw [← ht]; exact (digTx_t (by rw [h, hv]; rfl)).symm⟩
theorem rdDig_n {s : List Int} {t : List UInt8} {d : List Int} (h : validStack s = true) (h8 : d.length = 8) (hd : DigU s t d s.length) (ht : ¬ digTx s (dig d).l = t) : RdDig s t (dig0, 5) :=
  rdDig_no h (ndg_end h (d := dig d) (by rw [dig_l h8]; exact hd) ht)
/-! ### ParseUint at seven bits -/
def PUint (t : List UInt8) (n : Int) (b : Bool) : Prop := (0 ≤ n ∧ n ≤ 127) ∧ (b = true → U7 t n) ∧ (b = false → ∀ u, ¬ U7 t u)
theorem pum_dig {acc : Nat} {c : UInt8} {r : List UInt8} (h : isDig c) (h0 : acc ≤ 127) (h1 : acc * 10 + (c.toNat - 48) ≤ 127) : Lib.parseUintM 127 acc (c :: r) = Lib.parseUintM 127 (acc * 10 + (c.toNat - 48)) r := by
  unfold isDig at h
  rw [Lib.parseUintM, if_pos h, if_neg (by omega), if_neg (by omega)]
theorem pum_over {acc : Nat} {c : UInt8} {r : List UInt8} (h : isDig c) (h0 : acc ≤ 127) (h1 : 127 < acc * 10 + (c.toNat - 48)) : Lib.parseUintM 127 acc (c :: r) = .range := by
  unfold isDig at h
  rw [Lib.parseUintM, if_pos h, if_neg (by omega), if_pos h1]
theorem pum_no {acc : Nat} {c : UInt8} {r : List UInt8} (h : ¬ isDig c) : Lib.parseUintM 127 acc (c :: r) = Lib.parseUintB 7 [] := by
  unfold isDig at h
  rw [Lib.parseUintM, if_neg h]; rfl
/-- What has been read of a text's first k bytes. -/
def PUm (t : List UInt8) (k : Nat) (n : Nat) : Prop := n ≤ 127 ∧ Lib.parseUintM 127 0 t = Lib.parseUintM 127 n (t.drop k)
theorem pUm_0 (t : List UInt8) : PUm t 0 0 := ⟨by decide, rfl⟩
theorem pUm_s {t : List UInt8} {k n : Nat} (hk : k < t.length) (h : PUm t k n) (hd : isDig (t.getD k 0)) (h1 : n * 10 + ((t.getD k 0).toNat - 48) ≤ 127) : PUm t (k + 1) (n * 10 + ((t.getD k 0).toNat - 48)) := by
  refine ⟨h1, ?_⟩
  rw [h.2, drop_getD hk, pum_dig hd h.1 h1]
/-- The end that ParseUint comes to. -/
def PEnd (t : List UInt8) (x : Int × Int) : Prop := (x.2 = 0 ∧ U7 t x.1) ∨ (x.2 ≠ 0 ∧ (0 ≤ x.1 ∧ x.1 ≤ 127) ∧ (∀ u, ¬ U7 t u) ∧ (x.2 = 1 ∨ x.2 = 2))
theorem u7_no {t : List UInt8} (h : ∀ n, Lib.parseUintB 7 t ≠ .ok n) : ∀ u, ¬ U7 t u := fun u hu => h _ hu.2.2
theorem puB {t : List UInt8} (h : ¬ t = []) : Lib.parseUintB 7 t = Lib.parseUintM 127 0 t := by unfold Lib.parseUintB; rw [if_neg h]
theorem pend_e {t : List UInt8} (h : t = []) : PEnd t (0, 2) := .inr ⟨by decide, ⟨by decide, by decide⟩, u7_no (fun n => by subst h; simp [Lib.parseUintB]), .inr rfl⟩
theorem pend_no {t : List UInt8} {k n : Nat} (h : ¬ t = []) (hk : k < t.length) (hp : PUm t k n) (hd : ¬ isDig (t.getD k 0)) : PEnd t (0, 2) := .inr ⟨by decide, ⟨by decide, by decide⟩, u7_no (fun m => by rw [puB h, hp.2, drop_getD hk, pum_no hd]; simp [Lib.parseUintB]), .inr rfl⟩
theorem pend_over {t : List UInt8} {k n : Nat} (h : ¬ t = []) (hk : k < t.length) (hp : PUm t k n) (hd : isDig (t.getD k 0)) (h1 : 127 < n * 10 + ((t.getD k 0).toNat - 48)) : PEnd t (127, 1) := .inr ⟨by decide, ⟨by decide, by decide⟩, u7_no (fun m => by rw [puB h, hp.2, drop_getD hk, pum_over hd hp.1 h1]; simp), .inl rfl⟩
theorem pend_ok {t : List UInt8} {k n : Nat} (h : ¬ t = []) (hk : k = t.length) (hp : PUm t k n) : PEnd t ((n : Int), 0) := .inl ⟨rfl, by simp only; omega, by have := hp.1; simp only; omega, by
  rw [puB h, hp.2, hk, List.drop_length]; rfl⟩
end Go.W
namespace Go.W
open Go Go.Sx
theorem pum_bd : ∀ (l : List UInt8) (a u : Nat), a ≤ 127 → Lib.parseUintM 127 a l = .ok u → u ≤ 127
  | [], a, u, ha, h => by
    injection h with h
    omega
  | c :: r, a, u, ha, h => by
    unfold Lib.parseUintM at h
    split at h
    · split at h
      · cases h
      · split at h
        · cases h
        · exact pum_bd r _ u (by omega) h
    · cases h
theorem puint_ok {t : List UInt8} {u : Nat} (h : Lib.parseUintB 7 t = .ok u) : PUint t u true := by
  have hb : u ≤ 127 := by
    unfold Lib.parseUintB at h
    split at h
    · cases h
    · exact pum_bd t 0 u (by decide) h
  refine ⟨⟨by omega, by omega⟩, fun _ => ⟨by omega, by omega, by rw [Int.toNat_natCast]; exact h⟩, ?_⟩
  intro e; exact absurd e (by simp)
theorem puint_no {t : List UInt8} {n : Int} (hn : 0 ≤ n ∧ n ≤ 127) (h : ∀ u, Lib.parseUintB 7 t ≠ .ok u) : PUint t n false := by
  refine ⟨hn, ?_, fun _ u hu => h _ hu.2.2⟩
  intro e; exact absurd e (by simp)
end Go.W

/- Tickets read from their texts: a ticket is read iff the text is its own. -/
set_option linter.unusedVariables false
set_option linter.unusedSimpArgs false
namespace Go.W
open Go Go.Sx
theorem val_inj {s l l' : List Int} (hs : Stk s) (h : DigOk s l) (h' : DigOk s l') (hn : s.length ≤ l.length) (hn' : s.length ≤ l'.length) : ∀ j k, k + j = s.length → val (s.drop k) (l.drop k) = val (s.drop k) (l'.drop k) → ∀ i, k ≤ i → i < s.length → l.getD i 0 = l'.getD i 0
  | 0, k, hk, _, i, h1, h2 => by omega
  | j + 1, k, hk, hv, i, h1, h2 => by
    have hb := hs.bases k (by omega)
    have a1 := h k (by omega)
    have a2 := h' k (by omega)
    rw [val_drop (s := s) (l := l) (k := k) (by omega) (by omega), val_drop (s := s) (l := l') (k := k) (by omega) (by omega)] at hv
    have key : l.getD k 0 = l'.getD k 0 ∧ val (s.drop (k + 1)) (l.drop (k + 1)) = val (s.drop (k + 1)) (l'.drop (k + 1)) := by
      generalize val (s.drop (k + 1)) (l.drop (k + 1)) = x at hv ⊢
      generalize val (s.drop (k + 1)) (l'.drop (k + 1)) = y at hv ⊢
      generalize l.getD k 0 = p at *
      generalize l'.getD k 0 = q at *
      generalize s.getD k 0 = b at *
      have e1 : (p + b * x) % b = p := by rw [Int.add_mul_emod_self_left, Int.emod_eq_of_lt a1.1 a1.2]
      have e2 : (q + b * y) % b = q := by rw [Int.add_mul_emod_self_left, Int.emod_eq_of_lt a2.1 a2.2]
      have hpq : p = q := by rw [hv, e2] at e1; exact e1.symm
      refine ⟨hpq, ?_⟩
      subst hpq
      have h3 : b * x = b * y := by omega
      exact Int.eq_of_mul_eq_mul_left (by omega) h3
    by_cases hik : i = k
    · subst hik; exact key.1
    · exact val_inj hs h h' hn hn' j (k + 1) (by omega) key.2 i (by omega) h2
/-- Digits are those of their value. -/
theorem dig_val {s : List Int} {d : Dig} (hs : Stk s) (hn : Nums 255 d.l) (hv : validDig s d.l = true) : dig (digs s (val s d.l)) = d := by
  have h8 := hs.len8
  have hd := digOk h8 hn hv
  have hb := val_lt hs hd (by rw [dig_len]; omega)
  have e := val_of' hs hb.1 hb.2
  apply dig_inj
  rw [dig_l (digs_len _ _)]
  apply List.ext_getElem (by rw [digs_len, dig_len])
  intro i h1 h2
  have hi : i < 8 := h2
  have key : (digs s (val s d.l)).getD i 0 = d.l.getD i 0 := by
    by_cases his : i < s.length
    · refine val_inj hs (digs_ok hs) hd (by rw [digs_len]; omega) (by rw [dig_len]; omega) s.length 0 (by omega) ?_ i (Nat.zero_le _) his
      simpa using e
    · rw [digs_at hi, if_neg his]
      unfold validDig at hv
      rw [List.all_eq_true] at hv
      have := hv i (List.mem_range.2 hi)
      unfold goodAt at this
      rw [if_neg his, decide_eq_true_iff] at this
      exact this.symm
  rw [List.getD, List.getD, List.getElem?_eq_getElem h1, List.getElem?_eq_getElem h2] at key
  exact key
theorem dsv_val {s : List Int} {d : Dig} (hs : Stk s) (hn : Nums 255 d.l) (hv : validDig s d.l = true) : dsv s (val s d.l) = d.l := by
  unfold dsv
  rw [dig_val hs hn hv]
theorem digT_no {s l : List Int} {c : UInt8} (hs : Stk s) (hd : DigOk s l) (hc : c.toNat < 48) : c ∉ digT s l := by
  have h58 : c ≠ 58 := fun e => by subst e; exact absurd hc (by decide)
  unfold digT
  have key : ∀ xs : List (List UInt8), (∀ x ∈ xs, c ∉ x) → c ∉ Lib.join xs [58] := fun xs => by
    induction xs with
    | nil => intro _; simp [Lib.join, List.intercalate]
    | cons x r ih =>
      intro h
      cases r with
      | nil => rw [Lib.join_one]; exact h x (by simp)
      | cons y q =>
        rw [join_cons2, List.mem_append, List.mem_append, not_or, not_or]
        exact ⟨⟨h x (by simp), by simpa using h58⟩, ih fun z hz => h z (List.mem_cons_of_mem _ hz)⟩
  refine key _ fun x hx => ?_
  obtain ⟨i, hi, rfl⟩ := List.mem_map.1 hx
  have hi := List.mem_range.1 hi
  have h2 := hd (s.length - 1 - i) (by omega)
  exact dg_no h2.1 (.inl hc)
/-! ### Tickets -/
def tic0 : VTic := ⟨0, dig0, 0⟩
def NoTic (s : List Int) (t : List UInt8) : Prop := ∀ k : VTic, OkTic k → genT s k = true → ticT s k ≠ t
structure TicP (s : List Int) (t : List UInt8) (k : VTic) : Prop where
  len : (splitA 32 [] t).length = 3
  p0 : (splitA 32 [] t).getD 0 [] = Lib.itoa k.number
  p1 : (splitA 32 [] t).getD 1 [] = digT s k.shows.l
  p2 : (splitA 32 [] t).getD 2 [] = Lib.itoa k.check
  num : 1 ≤ k.number ∧ k.number ≤ 1000000
  val_ : validDig s k.shows.l = true
theorem tic_parts {s : List Int} {t : List UInt8} {k : VTic} (hs : Stk s) (hk : OkTic k) (hg : genT s k = true) (ht : ticT s k = t) : TicP s t k := by
  obtain ⟨h1, h2, h3⟩ := gen_of hg
  have hd := digOk hs.len8 hk.2.1 h2
  have e : ticT s k = Lib.join [Lib.itoa k.number, digT s k.shows.l, Lib.itoa k.check] [32] := by
    rw [join_cons2, join_cons2, Lib.join_one]
    unfold ticT
    simp [List.append_assoc]
  have hp : splitA 32 [] t = [Lib.itoa k.number, digT s k.shows.l, Lib.itoa k.check] := by
    rw [← ht, e]
    refine split_join _ (by simp) fun y hy => ?_
    simp only [List.mem_cons, List.not_mem_nil, or_false] at hy
    rcases hy with rfl | rfl | rfl
    · exact itoa_no (by omega) (by decide)
    · exact digT_no hs hd (by decide)
    · exact itoa_no hk.2.2.1 (by decide)
  exact ⟨by rw [hp]; rfl, by rw [hp]; rfl, by rw [hp]; rfl, by rw [hp]; rfl, h1, h2⟩
theorem tic_join {s : List Int} {t : List UInt8} {n c : Int} {d : Dig} (h : (splitA 32 [] t).length = 3) (h0 : (splitA 32 [] t).getD 0 [] = Lib.itoa n) (h1 : (splitA 32 [] t).getD 1 [] = digT s d.l) (h2 : (splitA 32 [] t).getD 2 [] = Lib.itoa c) : ticT s ⟨n, d, c⟩ = t := by
  have hj := join_split 32 t []
  rcases hp : splitA 32 [] t with _ | ⟨a, _ | ⟨b, _ | ⟨e, _ | ⟨f, r⟩⟩⟩⟩ <;> rw [hp] at h <;> simp only [List.length_cons, List.length_nil] at h <;> first | omega | skip
  rw [hp] at h0 h1 h2 hj
  have h0 : a = Lib.itoa n := h0
  have h1 : b = digT s d.l := h1
  have h2 : e = Lib.itoa c := h2
  rw [join_cons2, join_cons2, Lib.join_one, h0, h1, h2] at hj
  unfold ticT
  simpa [List.append_assoc] using hj
theorem tic_inj {s : List Int} {k k' : VTic} (hs : Stk s) (hk : OkTic k) (hk' : OkTic k') (hg : genT s k = true) (hg' : genT s k' = true) (h : ticT s k = ticT s k') : k = k' := by
  have a := tic_parts hs hk hg h
  have b := tic_parts hs hk' hg' rfl
  have e0 : k.number = k'.number := itoa_inj (by have := a.num; omega) (by have := b.num; omega) (a.p0.symm.trans b.p0)
  have e2 : k.check = k'.check := itoa_inj (by have := hk.2.2; omega) (by have := hk'.2.2; omega) (a.p2.symm.trans b.p2)
  have e1 : k.shows = k'.shows := dig_one hs hk.2.1 hk'.2.1 a.val_ b.val_ (a.p1.symm.trans b.p1)
  cases k; cases k'
  simp only at e0 e1 e2
  rw [e0, e1, e2]
def RdTic (s : List Int) (t : List UInt8) (x : VTic × Int) : Prop := OkTic x.1 ∧ ((validStack s = false ∧ x = (tic0, 1)) ∨ (validStack s = true ∧ ((x.2 = 0 ∧ genT s x.1 = true ∧ ticT s x.1 = t) ∨ (x.2 = 5 ∧ x.1 = tic0 ∧ NoTic s t))))
theorem okTic0 : OkTic tic0 := ⟨⟨by decide, by decide⟩, nums_z, by decide, by decide⟩
theorem rdTic_v {s : List Int} {t : List UInt8} (h : validStack s = false) : RdTic s t (tic0, 1) := ⟨okTic0, .inl ⟨h, rfl⟩⟩
theorem rdTic_no {s : List Int} {t : List UInt8} (h : validStack s = true) (h1 : NoTic s t) : RdTic s t (tic0, 5) := ⟨okTic0, .inr ⟨h, .inr ⟨rfl, rfl, h1⟩⟩⟩
theorem rdTic_one {s : List Int} {t : List UInt8} {x y : VTic × Int} (hx : RdTic s t x) (hy : RdTic s t y) : x = y := by
  obtain ⟨ox, hx⟩ := hx
  obtain ⟨oy, hy⟩ := hy
  rcases hx with ⟨a, rfl⟩ | ⟨a, hx⟩
  · rcases hy with ⟨_, rfl⟩ | ⟨b, _⟩
    · rfl
    · rw [a] at b; cases b
  · rcases hy with ⟨b, _⟩ | ⟨b, hy⟩
    · rw [a] at b; cases b
    · rcases hx with ⟨c1, c2, c3⟩ | ⟨c1, c2, c3⟩ <;> rcases hy with ⟨d1, d2, d3⟩ | ⟨d1, d2, d3⟩
      · exact Prod.ext (tic_inj (stk a) ox oy c2 d2 (c3.trans d3.symm)) (c1.trans d1.symm)
      · exact absurd c3 (d3 x.1 ox c2)
      · exact absurd d3 (c3 y.1 oy d2)
      · exact Prod.ext (c2.trans d2.symm) (c1.trans d1.symm)
theorem nt_len {s : List Int} {t : List UInt8} (h : validStack s = true) (h3 : (splitA 32 [] t).length ≠ 3) : NoTic s t := fun k hk hg ht => h3 (tic_parts (stk h) hk hg ht).len
/-- Where the specification's readings are not all good, there is no ticket. -/
theorem nt_s {s : List Int} {t : List UInt8} {x : Dig × Bool} (h : validStack s = true) (hx : L01 s ((splitA 32 [] t).getD 1 []) x) (hb : ¬ ((numR 9 ((splitA 32 [] t).getD 0 [])).2 = true ∧ x.2 = true ∧ (numR 9 ((splitA 32 [] t).getD 2 [])).2 = true ∧ (numR 9 ((splitA 32 [] t).getD 2 [])).1 ≤ 65535 ∧ genT s ⟨(numR 9 ((splitA 32 [] t).getD 0 [])).1, x.1, (numR 9 ((splitA 32 [] t).getD 2 [])).1⟩ = true)) : NoTic s t := fun k hk hg ht => by
  have p := tic_parts (stk h) hk hg ht
  have e0 := numR_itoa (B := 9) (n := k.number) (by have := p.num; omega) (by have := p.num; omega) (by decide)
  have e2 := numR_itoa (B := 9) (n := k.check) hk.2.2.1 (by have := hk.2.2; omega) (by decide)
  rw [p.p0, p.p2, e0, e2] at hb
  have hxe : x.2 = true ∧ x.1 = k.shows := by
    rw [p.p1] at hx
    rcases hx.2 with ⟨a, b, c⟩ | ⟨a, b⟩
    · exact ⟨a, dig_one (stk h) hx.1 hk.2.1 b p.val_ c⟩
    · exact absurd rfl (b k.shows hk.2.1 p.val_)
  exact hb ⟨rfl, hxe.1, rfl, hk.2.2.2, by simp only; rw [hxe.2]; exact hg⟩
theorem rdTic_s {s : List Int} {t : List UInt8} {x : Dig × Bool} (h : validStack s = true) (h3 : (splitA 32 [] t).length = 3) (hx : L01 s ((splitA 32 [] t).getD 1 []) x) (h0 : (numR 9 ((splitA 32 [] t).getD 0 [])).2 = true) (h1 : x.2 = true) (h2 : (numR 9 ((splitA 32 [] t).getD 2 [])).2 = true) (hok : OkTic ⟨(numR 9 ((splitA 32 [] t).getD 0 [])).1, x.1, (numR 9 ((splitA 32 [] t).getD 2 [])).1⟩) (hg : genT s ⟨(numR 9 ((splitA 32 [] t).getD 0 [])).1, x.1, (numR 9 ((splitA 32 [] t).getD 2 [])).1⟩ = true) : RdTic s t (⟨(numR 9 ((splitA 32 [] t).getD 0 [])).1, x.1, (numR 9 ((splitA 32 [] t).getD 2 [])).1⟩, 0) := by
  refine ⟨hok, .inr ⟨h, .inl ⟨rfl, hg, ?_⟩⟩⟩
  rcases hx.2 with ⟨_, _, c⟩ | ⟨a, _⟩
  · exact tic_join h3 (numR_true h0).1 c.symm (numR_true h2).1
  · rw [h1] at a; cases a
/-- Where the program's readings are not all good, or the text is another one, there is no ticket. -/
theorem nt_i {s : List Int} {t : List UInt8} {x y : Int × Bool} {d : Dig × Int} (h : validStack s = true) (hx : RDec ((splitA 32 [] t).getD 0 []) x) (hd : RdDig s ((splitA 32 [] t).getD 1 []) d) (hy : RDec ((splitA 32 [] t).getD 2 []) y) (hb : ¬ (x.2 = true ∧ y.2 = true ∧ d.2 = 0 ∧ ticTx s ⟨x.1, d.1, IntKind.u16.wrap y.1⟩ = t)) : NoTic s t := fun k hk hg ht => by
  have p := tic_parts (stk h) hk hg ht
  obtain ⟨a1, a2⟩ := hx.2.2.1 k.number ⟨by have := p.num; omega, by have := p.num; omega⟩ p.p0
  obtain ⟨b1, b2⟩ := hy.2.2.1 k.check ⟨by have := hk.2.2; omega, by have := hk.2.2; omega⟩ p.p2
  have e : d = (k.shows, 0) := rdDig_one hd (.inr ⟨h, hk.2.1, .inl ⟨rfl, p.val_, p.p1.symm⟩⟩)
  refine hb ⟨a1, b1, by rw [e], ?_⟩
  have hw : IntKind.u16.wrap y.1 = k.check := by rw [b2]; exact IntWalk.u16_in _ hk.2.2
  rw [hw, a2, e]
  rw [ticTx_t h hg]
  exact ht
theorem rdTic_i {s : List Int} {t : List UInt8} {x y : Int × Bool} {d : Dig × Int} (h : validStack s = true) (h3 : (splitA 32 [] t).length = 3) (hok : OkTic ⟨x.1, d.1, IntKind.u16.wrap y.1⟩) (ht : ticTx s ⟨x.1, d.1, IntKind.u16.wrap y.1⟩ = t) : RdTic s t (⟨x.1, d.1, IntKind.u16.wrap y.1⟩, 0) := by
  refine ⟨hok, .inr ⟨h, .inl ⟨rfl, ?_⟩⟩⟩
  cases hg : genT s ⟨x.1, d.1, IntKind.u16.wrap y.1⟩
  · rw [ticTx_1 hg] at ht
    subst ht
    have h3 : ([[]] : List (List UInt8)).length = 3 := h3
    simp at h3
  · exact ⟨rfl, by rw [← ht]; exact (ticTx_t h hg).symm⟩
end Go.W

/- Fewer acts do the same; a device stops at its preset, and not before. -/
set_option linter.unusedVariables false
set_option linter.unusedSimpArgs false
namespace Go.W
open Go Go.Sx
theorem addD_add {s : List Int} {a : Dig} {n m : Int} (h : Stk s) : addD s (addD s a n) m = addD s a (n + m) := by
  have e : addD s (addD s a n) m = dig (digs s ((val s (addD s a n).l + m) % size s)) := rfl
  rw [e, addD_val h, h.size_, Int.emod_add_emod, Int.add_assoc]
  unfold addD
  rw [h.size_]
theorem addD_0 {s : List Int} {a : Dig} (h : Stk s) (hn : Nums 255 a.l) (hv : validDig s a.l = true) : addD s a 0 = a := by
  have hb := val_lt h (digOk h.len8 hn hv) (by rw [dig_len]; exact h.len8)
  unfold addD
  rw [Int.add_zero, h.size_, Int.emod_eq_of_lt hb.1 hb.2, dig_val h hn hv]
theorem until_uniq {x y z : Int} (hz : 0 < z) (h : 1 ≤ y ∧ y ≤ z) (e : (y - x) % z = 0) : until1 x z = y := by
  have e1 : y % z = x % z := Int.emod_eq_emod_iff_emod_sub_eq_zero.2 e
  unfold until1
  rcases Int.lt_or_eq_of_le h.2 with h1 | h1
  · rw [Int.emod_eq_of_lt (by omega) h1] at e1
    rw [if_neg (by omega), e1]
  · subst h1
    rw [Int.emod_self] at e1
    rw [if_pos e1.symm]
theorem until_mod {x z : Int} (hz : 0 < z) : (until1 x z - x) % z = 0 := by
  refine Int.emod_eq_emod_iff_emod_sub_eq_zero.1 ?_
  unfold until1
  split
  · rename_i h; rw [h, Int.emod_self]
  · rw [Int.emod_emod_of_dvd _ (Int.dvd_refl _)]
theorem until_on {d : VDev} {n st : Int} (hO : DevOk d) (hst : st = 1 ∨ st = -1) (h0 : 0 ≤ n) (h1 : n < untilV d st) : untilV ⟨d.stack, addD d.stack d.shows (st * n), d.preset, d.stopped, d.tickets⟩ st = untilV d st - n := by
  have hz := hO.stk.pos
  have hu := until_bd hO st
  have hm : (untilV d st - st * (d.preset - d.v)) % prod d.stack = 0 := until_mod (by omega)
  have ev : val d.stack (addD d.stack d.shows (st * n)).l = (d.v + st * n) % prod d.stack := addD_val hO.stk
  show until1 (st * (d.preset - val d.stack (addD d.stack d.shows (st * n)).l)) (prod d.stack) = _
  rw [ev]
  refine until_uniq (by omega) ⟨by omega, by omega⟩ ?_
  have hq : (d.v + st * n) % prod d.stack = d.v + st * n - prod d.stack * ((d.v + st * n) / prod d.stack) := Int.emod_def _ _
  rw [hq]
  generalize (d.v + st * n) / prod d.stack = q
  generalize untilV d st = u at *
  generalize prod d.stack = z at *
  have e : u - n - st * (d.preset - (d.v + st * n - z * q)) = (u - st * (d.preset - d.v)) - z * (st * q) := by
    rcases hst with rfl | rfl
    · simp only [Int.one_mul]; omega
    · have a1 : z * (-1 * q) = -(z * q) := by rw [← Int.mul_assoc, Int.mul_comm z (-1), Int.mul_assoc]; omega
      rw [a1]
      generalize z * q = y
      omega
  rw [e, Int.sub_mul_emod_self_left]
  exact hm
/-- Pulses and pulses behind them are as many at once. -/
theorem pulse_add {d : VDev} {n m st : Int} (hO : DevOk d) (hst : st = 1 ∨ st = -1) (h0 : 0 ≤ n) (h1 : 0 ≤ m) : pulseV d (n + m) st = ((pulseV (pulseV d n st).1 m st).1, (pulseV d n st).2 + (pulseV (pulseV d n st).1 m st).2) := by
  by_cases hs : d.stopped = true
  · rw [pv_stop hs, pv_stop hs]
    show _ = ((pulseV d m st).1, n + (pulseV d m st).2)
    rw [pv_stop hs]
  · have hs : d.stopped = false := by simpa using hs
    have hu := until_bd hO st
    by_cases hh : d.preset ≠ -1 ∧ untilV d st ≤ n
    · rw [pv_hit hs hh, pv_hit hs (n := n + m) ⟨hh.1, by omega⟩]
      show _ = ((pulseV ⟨d.stack, addD d.stack d.shows (st * untilV d st), d.preset, true, d.tickets⟩ m st).1, n - untilV d st + (pulseV ⟨d.stack, addD d.stack d.shows (st * untilV d st), d.preset, true, d.tickets⟩ m st).2)
      rw [pv_stop rfl]
      show _ = (_, n - untilV d st + m)
      rw [show n + m - untilV d st = n - untilV d st + m by omega]
    · rw [pv_on hs hh]
      show _ = ((pulseV ⟨d.stack, addD d.stack d.shows (st * n), d.preset, d.stopped, d.tickets⟩ m st).1, 0 + (pulseV ⟨d.stack, addD d.stack d.shows (st * n), d.preset, d.stopped, d.tickets⟩ m st).2)
      rw [Int.zero_add]
      by_cases hp : d.preset = -1
      · rw [pv_on hs (n := n + m) (fun h => h.1 hp), pv_on (d := ⟨d.stack, addD d.stack d.shows (st * n), d.preset, d.stopped, d.tickets⟩) hs (fun h => h.1 hp), addD_add hO.stk, ← Int.mul_add]
      · have hlt : n < untilV d st := by
          rcases Int.lt_or_le n (untilV d st) with h | h
          · exact h
          · exact absurd ⟨hp, h⟩ hh
        have eu := until_on hO hst h0 hlt
        by_cases hm : untilV d st ≤ n + m
        · rw [pv_hit hs (n := n + m) ⟨hp, hm⟩, pv_hit (d := ⟨d.stack, addD d.stack d.shows (st * n), d.preset, d.stopped, d.tickets⟩) hs ⟨hp, by rw [eu]; omega⟩, eu]
          show _ = ((⟨d.stack, addD d.stack (addD d.stack d.shows (st * n)) (st * (untilV d st - n)), d.preset, true, d.tickets⟩ : VDev), m - (untilV d st - n))
          rw [addD_add hO.stk, ← Int.mul_add, show n + (untilV d st - n) = untilV d st by omega, show m - (untilV d st - n) = n + m - untilV d st by omega]
        · rw [pv_on hs (n := n + m) (fun h => hm h.2), pv_on (d := ⟨d.stack, addD d.stack d.shows (st * n), d.preset, d.stopped, d.tickets⟩) hs (fun h => by have := h.2; rw [eu] at this; omega), addD_add hO.stk, ← Int.mul_add]
theorem pulse_0 {d : VDev} {st : Int} (hk : OkDev d) (hv : validDev d = true) : pulseV d 0 st = (d, 0) := by
  have hO := devOk hk.2.2.1 hv
  have hu := until_bd hO st
  have hvd : validDig d.stack d.shows.l = true := by unfold validDev at hv; rw [decide_eq_true_iff] at hv; exact hv.2.1
  by_cases hs : d.stopped = true
  · exact pv_stop hs
  · rw [pv_on (by simpa using hs) (fun h => by have := h.2; omega), Int.mul_zero, addD_0 hO.stk hk.2.2.1 hvd]
/-- An act with a bound on its pulses. -/
def OkB (s : List Int) (b : Int) (a : VAct) : Prop := ((a.kind = 1 ∨ a.kind = 2) ∧ 0 ≤ a.n ∧ a.n ≤ b) ∨ (a.kind = 3 ∧ -1 ≤ a.n ∧ a.n ≤ 28 ∧ a.n ≤ size s - 1) ∨ ((a.kind = 4 ∨ a.kind = 5) ∧ a.n = 0)
theorem OkJ.b {s : List Int} {a : VAct} (h : OkJ s a) : OkB s 19 a := h
theorem OkB.le {s : List Int} {a : VAct} {b c : Int} (h : OkB s b a) (hb : b ≤ c) : OkB s c a := by unfold OkB at h ⊢; omega
theorem OkB.valid {s : List Int} {a : VAct} {b : Int} (h : OkB s b a) (hb : b ≤ 1000000) : validAct a = true := by
  unfold validAct; rw [decide_eq_true_iff]; unfold OkB at h; omega
/-- Acts done one behind the other, and what is lost. -/
def doS (x : VDev × Int) (a : VAct) : VDev × Int := ((doV x.1 a).1, x.2 + (doV x.1 a).2.1)
theorem fold_ok {s : List Int} {b : Int} (hb : b ≤ 1000000) : ∀ (out : List VAct) (X : VDev × Int), OkDev X.1 → validDev X.1 = true → X.1.stack = s → (∀ x ∈ out, OkB s b x) → OkDev (out.foldl doS X).1 ∧ validDev (out.foldl doS X).1 = true ∧ (out.foldl doS X).1.stack = s
  | [], X, h1, h2, h3, _ => ⟨h1, h2, h3⟩
  | a :: r, X, h1, h2, h3, h => by
    have ho := do_ok h1 h2 ((h a (by simp)).valid hb)
    exact fold_ok hb r (doS X a) ho.1 ho.2 (by show (doV X.1 a).1.stack = s; rw [do_stack]; exact h3) fun x hx => h x (by simp [hx])
theorem last_get {l : List VAct} {b : VAct} : (l ++ [b]).getD ((l ++ [b]).length - 1) zA = b := by
  simp [List.getD, List.length_append]
theorem last_set {l : List VAct} {b y : VAct} : (l ++ [b]).set ((l ++ [b]).length - 1) y = l ++ [y] := by
  rw [List.length_append, List.length_singleton, Nat.add_sub_cancel, List.set_append_right _ _ (Nat.le_refl _), Nat.sub_self]
  rfl
theorem fold_step {s : List Int} {b : Int} (hb : b ≤ 1000000) {X : VDev × Int} (h1 : OkDev X.1) (h2 : validDev X.1 = true) (h3 : X.1.stack = s) {out : List VAct} {a : VAct} (ho : ∀ x ∈ out, OkB s b x) (ha : OkB s b a) : (stepA out a).foldl doS X = doS (out.foldl doS X) a := by
  unfold stepA
  split
  · rename_i h
    obtain ⟨hp, h0⟩ := h
    obtain ⟨g1, g2, _⟩ := fold_ok hb out X h1 h2 h3 ho
    generalize out.foldl doS X = Y at *
    unfold isPulse at hp
    rw [decide_eq_true_iff] at hp
    unfold doS
    rcases hp with hp | hp
    · rw [do_1 hp, h0, pulse_0 g1 g2, Int.add_zero]
    · rw [do_2 hp, h0, pulse_0 g1 g2, Int.add_zero]
  · rename_i hz
    split
    · rw [List.foldl_append]; rfl
    · rename_i h
      have hne : out ≠ [] := fun e => h (.inl (by rw [e]; rfl))
      obtain ⟨i, c, rfl⟩ : ∃ i c, out = i ++ [c] := ⟨out.dropLast, out.getLast hne, (List.dropLast_concat_getLast hne).symm⟩
      rw [last_get] at h ⊢
      have hk : c.kind = a.kind := by
        by_cases e : c.kind = a.kind
        · exact e
        · exact absurd (.inr (.inl e)) h
      have h5 : a.kind ≠ 5 := fun e => h (.inr (.inr e))
      obtain ⟨g1, g2, g3⟩ := fold_ok hb i X h1 h2 h3 fun x hx => ho x (by simp [hx])
      have hc := ho c (by simp)
      rw [last_set, last_set, List.foldl_append]
      split
      · rename_i hp
        unfold isPulse at hp
        rw [decide_eq_true_iff] at hp
        rw [List.foldl_append]
        show doS (i.foldl doS X) ⟨c.kind, c.n + a.n⟩ = doS (doS (i.foldl doS X) c) a
        generalize i.foldl doS X = Y at *
        have hO := devOk g1.2.2.1 g2
        unfold OkB at hc ha
        unfold doS
        rcases hp with hp | hp
        · rw [do_1 (a := ⟨c.kind, c.n + a.n⟩) (by show c.kind = 1; omega), do_1 (a := c) (by omega), do_1 hp]
          show ((pulseV Y.1 (c.n + a.n) 1).1, Y.2 + (pulseV Y.1 (c.n + a.n) 1).2) = _
          rw [pulse_add hO (.inl rfl) (by omega) (by omega)]
          show (_, _) = (_, _)
          rw [Int.add_assoc]
        · rw [do_2 (a := ⟨c.kind, c.n + a.n⟩) (by show c.kind = 2; omega), do_2 (a := c) (by omega), do_2 hp]
          show ((pulseV Y.1 (c.n + a.n) (-1)).1, Y.2 + (pulseV Y.1 (c.n + a.n) (-1)).2) = _
          rw [pulse_add hO (.inr rfl) (by omega) (by omega)]
          show (_, _) = (_, _)
          rw [Int.add_assoc]
      · rename_i hp
        rw [List.foldl_append]
        show doS (i.foldl doS X) a = doS (doS (i.foldl doS X) c) a
        generalize i.foldl doS X = Y at *
        have hp : ¬ (a.kind = 1 ∨ a.kind = 2) := fun e => hp (by unfold isPulse; exact decide_eq_true e)
        unfold OkB at hc ha
        unfold doS
        by_cases e3 : a.kind = 3
        · have b1 : ¬ (a.n ≠ -1 ∧ ¬ (0 ≤ a.n ∧ a.n ≤ size Y.1.stack - 1)) := by rw [g3]; omega
          have b2 : ¬ (c.n ≠ -1 ∧ ¬ (0 ≤ c.n ∧ c.n ≤ size Y.1.stack - 1)) := by rw [g3]; omega
          rw [do_3 e3 b1, do_3 (a := c) (by omega) b2]
          show _ = ((doV ⟨Y.1.stack, Y.1.shows, c.n, decide (c.n = Y.1.v), Y.1.tickets⟩ a).1, Y.2 + 0 + (doV ⟨Y.1.stack, Y.1.shows, c.n, decide (c.n = Y.1.v), Y.1.tickets⟩ a).2.1)
          rw [do_3 (d := ⟨Y.1.stack, Y.1.shows, c.n, decide (c.n = Y.1.v), Y.1.tickets⟩) e3 b1]
          show (_, Y.2 + 0) = (_, Y.2 + 0 + 0)
          rw [Int.add_zero, Int.add_zero]
          rfl
        · have e4 : a.kind = 4 := by omega
          rw [do_4 e4, do_4 (a := c) (by omega)]
          show _ = ((doV ⟨Y.1.stack, zDig, Y.1.preset, decide (Y.1.preset = 0), Y.1.tickets⟩ a).1, Y.2 + 0 + (doV ⟨Y.1.stack, zDig, Y.1.preset, decide (Y.1.preset = 0), Y.1.tickets⟩ a).2.1)
          rw [do_4 e4]
          show (_, Y.2 + 0) = (_, Y.2 + 0 + 0)
          rw [Int.add_zero, Int.add_zero]
theorem stepA_b {s : List Int} {b c : Int} {out : List VAct} {a : VAct} (h0 : 0 ≤ b) (hc : 0 ≤ c) (ho : ∀ x ∈ out, OkB s b x) (ha : OkB s c a) : ∀ x ∈ stepA out a, OkB s (b + c) x := by
  have ho' : ∀ x ∈ out, OkB s (b + c) x := fun x hx => (ho x hx).le (by omega)
  have ha' : OkB s (b + c) a := ha.le (by omega)
  unfold stepA
  split
  · exact ho'
  · split
    · intro x hx
      rcases List.mem_append.1 hx with hx | hx
      · exact ho' x hx
      · rw [List.mem_singleton] at hx; subst hx; exact ha'
    · rename_i h
      have hne : 0 < out.length := Nat.pos_of_ne_zero fun e => h (.inl e)
      split
      · rename_i hp
        intro x hx
        rcases List.mem_or_eq_of_mem_set hx with hx | hx
        · exact ho' x hx
        · subst hx
          have hl := ho _ (getD_mem zA (show out.length - 1 < out.length by omega))
          have hk : (out.getD (out.length - 1) zA).kind = a.kind := by
            by_cases e : (out.getD (out.length - 1) zA).kind = a.kind
            · exact e
            · exact absurd (.inr (.inl e)) h
          unfold isPulse at hp
          rw [decide_eq_true_iff] at hp
          unfold OkB at hl ha
          exact .inl ⟨by show (out.getD (out.length - 1) zA).kind = 1 ∨ (out.getD (out.length - 1) zA).kind = 2; omega, by show 0 ≤ (out.getD (out.length - 1) zA).n + a.n; omega, by show (out.getD (out.length - 1) zA).n + a.n ≤ b + c; omega⟩
      · intro x hx
        rcases List.mem_or_eq_of_mem_set hx with hx | hx
        · exact ho' x hx
        · subst hx; exact ha'
theorem take_s {l : List VAct} {k : Nat} (h : k < l.length) : l.take (k + 1) = l.take k ++ [l.getD k zA] := by
  rw [List.take_succ_eq_append_getElem h]
  simp [List.getD, h]
theorem fold_run {d : VDev} {l : List VAct} : ∀ k, k ≤ l.length → (l.take k).foldl doS (d, 0) = (runD d l k, lostD d l k)
  | 0, _ => rfl
  | k + 1, h => by
    rw [take_s (by omega), List.foldl_append, fold_run k (by omega)]
    rfl
theorem short_run {d : VDev} {l : List VAct} (hk : OkDev d) (hv : validDev d = true) (hl : ∀ i, i < l.length → OkJ d.stack (l.getD i zA)) (hn : l.length ≤ 1000) : ∀ k, k ≤ l.length → (∀ x ∈ shortL l k, OkB d.stack (19 * k) x) ∧ (shortL l k).foldl doS (d, 0) = (runD d l k, lostD d l k)
  | 0, _ => ⟨fun x hx => by simp [shortL] at hx, rfl⟩
  | k + 1, h => by
    obtain ⟨h1, h2⟩ := short_run hk hv hl hn k (by omega)
    have ha := (hl k (by omega)).b
    rw [shortL_succ (by omega)]
    refine ⟨fun x hx => (stepA_b (by omega) (by omega) h1 ha x hx).le (by push_cast; omega), ?_⟩
    rw [fold_step (b := 19000) (by omega) (X := (d, 0)) hk hv rfl (fun x hx => (h1 x hx).le (by omega)) (ha.le (by omega)), h2]
    rfl
theorem do_b {d : VDev} {a : VAct} {s : List Int} {b : Int} (hb : 0 ≤ b) (hk : OkDev d) (hv : validDev d = true) (hs : d.stack = s) (ht : d.tickets ≤ 1000) (h : OkB s b a) :
    (doV d a).2.2 = 0 ∧ (0 ≤ (doV d a).2.1 ∧ (doV d a).2.1 ≤ b) ∧ (doV d a).1.tickets ≤ d.tickets + 1 := by
  have hO := devOk hk.2.2.1 hv
  rcases h with ⟨h1 | h1, h2⟩ | ⟨h1, h2⟩ | ⟨h1 | h1, h2⟩
  · have := pulse_le (st := 1) hO h2.1
    rw [do_1 h1]; exact ⟨rfl, ⟨this.1, Int.le_trans this.2.1 h2.2⟩, by rw [this.2.2]; omega⟩
  · have := pulse_le (st := -1) hO h2.1
    rw [do_2 h1]; exact ⟨rfl, ⟨this.1, Int.le_trans this.2.1 h2.2⟩, by rw [this.2.2]; omega⟩
  · rw [do_3 h1 (by rw [hs]; omega)]; exact ⟨rfl, ⟨Int.le_refl _, hb⟩, by show d.tickets ≤ d.tickets + 1; omega⟩
  · rw [do_4 h1]; exact ⟨rfl, ⟨Int.le_refl _, hb⟩, by show d.tickets ≤ d.tickets + 1; omega⟩
  · rw [do_5 h1 (by omega)]; exact ⟨rfl, ⟨Int.le_refl _, hb⟩, by show d.tickets + 1 ≤ d.tickets + 1; omega⟩
theorem run_b {d : VDev} {l : List VAct} {b : Int} (hb : 0 ≤ b ∧ b ≤ 1000000) (hk : OkDev d) (hv : validDev d = true) (ht : d.tickets ≤ 500) (hn : l.length ≤ 60) (h : ∀ i, i < l.length → OkB d.stack b (l.getD i zA)) : ∀ k, k ≤ l.length →
    runC d l k = 0 ∧ (0 ≤ lostD d l k ∧ lostD d l k ≤ 1000000 * k) ∧ (runD d l k).tickets ≤ d.tickets + k
  | 0, _ => ⟨rfl, by simp [lostD], by simp [runD]⟩
  | k + 1, hkl => by
    obtain ⟨h1, h2, h3⟩ := run_b hb hk hv ht hn h k (by omega)
    have h4 := run_ok hk hv (fun i hi => (h i hi).valid hb.2) k (by omega)
    have h5 := do_b hb.1 h4.1 h4.2 (runD_stack d l k) (by omega) (h k (by omega))
    refine ⟨by rw [rc_go h1]; exact h5.1, by rw [lostD]; omega, ?_⟩
    rw [runD]; have := h5.2.2; omega
/-- What the law of devices asks of acts and of fewer. -/
structure DvL (d : VDev) (l : List VAct) : Prop where
  code : (runV d l).2.2.2.2 = 0
  valid : validDev (runV d l).1 = true
  ok : OkDev (runV d l).1
  stk : (runV d l).1.stack = d.stack
  scode : (shortV l).2 = 0
  slen : (shortV l).1.length ≤ l.length
  same : runV d (shortV l).1 = ((runV d l).1, (runV d (shortV l).1).2.1, (runV d (shortV l).1).2.2.1, (runV d l).2.2.2.1, 0)
  act : ∀ i, i < l.length → validAct (l.getD i zA) = true
theorem dvl {d : VDev} {l : List VAct} (hd : DrDev d) (hl : DrActs d.stack l) : DvL d l := by
  have hR := run_drawn hd hl
  obtain ⟨hk, hv, _, ht⟩ := hd
  have hn := hl.1
  have hva : ∀ i, i < l.length → validAct (l.getD i zA) = true := fun i hi => (hl.2 i hi).valid
  have hr := run_ok hk hv hva l.length (Nat.le_refl _)
  obtain ⟨s1, s2⟩ := short_run hk hv hl.2 (by omega) l.length (Nat.le_refl _)
  have hsl := shortL_len l l.length
  have haf : ¬ afault l ≠ 0 := by rw [← af_ok (l := l) (any_bad_f (k := l.length) (Nat.lt_irrefl _) hva) (by omega)]; decide
  have hlow : Low 1000000000000 (shortL l l.length) := fun x hx => by have := s1 x hx; unfold OkB at this; omega
  have hsh : shortV l = (shortL l l.length, 0) := shk_low rfl haf hlow
  have hsb : ∀ i, i < (shortL l l.length).length → OkB d.stack 1000 ((shortL l l.length).getD i zA) := fun i hi => (s1 _ (getD_mem zA hi)).le (by omega)
  have hrb := run_b (l := shortL l l.length) (b := 1000) (by omega) hk hv (by omega) (by omega) hsb
  have hR2 : RunOk d (shortL l l.length) := run_of hv (by omega) (fun i hi => (hsb i hi).valid (by omega)) (fun k hkl => (hrb k hkl).1) (by have := (hrb _ (Nat.le_refl _)).2.1; omega)
  have hf := fold_run (d := d) (l := shortL l l.length) _ (Nat.le_refl _)
  rw [List.take_length, s2] at hf
  have hf1 := congrArg Prod.fst hf
  have hf2 := congrArg Prod.snd hf
  refine ⟨by rw [hR.rv], by rw [hR.rv]; exact hr.2, by rw [hR.rv]; exact hr.1, by rw [hR.rv]; exact runD_stack d l l.length, by rw [hsh], by rw [hsh]; exact hsl, ?_, hva⟩
  rw [hsh]
  show runV d (shortL l l.length) = _
  rw [hR2.rv, hR.rv]
  show (_, _, _, _, _) = (runD d l l.length, _, _, lostD d l l.length, 0)
  rw [show runD d l l.length = runD d (shortL l l.length) (shortL l l.length).length from hf1, show lostD d l l.length = lostD d (shortL l l.length) (shortL l l.length).length from hf2]
/-- Pulses at once: counted, or lost. -/
theorem one_do {d : VDev} {n : Int} (hd : DrDev d) (hn : 0 ≤ n ∧ n ≤ 1000000000000) : doActV d ⟨1, n⟩ = ((pulseV d n 1).1, (pulseV d n 1).2, 0) := by
  obtain ⟨hk, hv, _, ht⟩ := hd
  have e : doV d ⟨1, n⟩ = ((pulseV d n 1).1, (pulseV d n 1).2, 0) := do_1 rfl
  rw [da_ok ⟨hv, by unfold validAct; rw [decide_eq_true_iff]; exact .inl ⟨.inl rfl, hn⟩⟩ (by rw [e]; exact fun h => h rfl), e]
theorem one_lost {d : VDev} {n : Int} (hd : DrDev d) (hn : 0 ≤ n) : (pulseV d n 1).1.shows = addD d.stack d.shows (n - (pulseV d n 1).2) ∧ (0 < (pulseV d n 1).2 → (pulseV d n 1).1.stopped = true) ∧ (d.stopped = true → (pulseV d n 1).2 = n) ∧ 0 ≤ (pulseV d n 1).2 ∧ (pulseV d n 1).2 ≤ n := by
  obtain ⟨hk, hv, _, ht⟩ := hd
  have hO := devOk hk.2.2.1 hv
  have hu := until_bd hO 1
  have hvd : validDig d.stack d.shows.l = true := by unfold validDev at hv; rw [decide_eq_true_iff] at hv; exact hv.2.1
  by_cases hs : d.stopped = true
  · rw [pv_stop hs]
    refine ⟨?_, fun _ => hs, fun _ => rfl, hn, Int.le_refl _⟩
    show d.shows = addD d.stack d.shows (n - n)
    rw [Int.sub_self, addD_0 hO.stk hk.2.2.1 hvd]
  · have hs' : d.stopped = false := by simpa using hs
    by_cases hh : d.preset ≠ -1 ∧ untilV d 1 ≤ n
    · rw [pv_hit hs' hh]
      refine ⟨?_, fun _ => rfl, fun h => absurd h hs, ?_, ?_⟩
      · show addD d.stack d.shows (1 * untilV d 1) = addD d.stack d.shows (n - (n - untilV d 1))
        rw [Int.one_mul, show n - (n - untilV d 1) = untilV d 1 by omega]
      · show 0 ≤ n - untilV d 1; omega
      · show n - untilV d 1 ≤ n; omega
    · rw [pv_on hs' hh]
      refine ⟨?_, fun h => absurd h (Int.lt_irrefl 0), fun h => absurd h hs, Int.le_refl _, hn⟩
      show addD d.stack d.shows (1 * n) = addD d.stack d.shows (n - 0)
      rw [Int.one_mul, Int.sub_zero]
/-- A device stops at its preset, and not before. -/
theorem stops {d : VDev} (hd : DrDev d) : (d.preset < 0 → (pulsesV d).2 = 6) ∧ (0 ≤ d.preset → (pulsesV d).2 = 0 ∧ (d.stopped = true → (pulsesV d).1 = 0) ∧ (d.stopped = false → 1 ≤ (pulsesV d).1 ∧ (pulsesV d).1 ≤ 1000000000000 ∧
    (pulseV d (pulsesV d).1 1).1.stopped = true ∧ (pulseV d (pulsesV d).1 1).2 = 0 ∧ (pulseV d ((pulsesV d).1 - 1) 1).1.stopped = false ∧ (pulseV d ((pulsesV d).1 - 1) 1).2 = 0 ∧ (pulseV d (pulsesV d).1 1).1.stack = d.stack ∧ validDig d.stack (pulseV d (pulsesV d).1 1).1.shows.l = true ∧ Nums 255 (pulseV d (pulsesV d).1 1).1.shows.l ∧ val d.stack (pulseV d (pulsesV d).1 1).1.shows.l = d.preset)) := by
  obtain ⟨hk, hv, _, ht⟩ := hd
  have hO := devOk hk.2.2.1 hv
  have hu := until_bd hO 1
  have hp := hO.preset
  refine ⟨fun h => by rw [pu_neg hk.2.2.1 hv h], fun h => ?_⟩
  by_cases hs : d.stopped = true
  · rw [pu_stop hv (by omega) hs]
    exact ⟨rfl, fun _ => rfl, fun h => by rw [hs] at h; cases h⟩
  · have hs' : d.stopped = false := by simpa using hs
    have hpn : d.preset ≠ -1 := by omega
    have hsz : prod d.stack ≤ 1000000000000 := hO.stk.le
    rw [pu_on hv (by omega) hs']
    refine ⟨rfl, fun h => absurd h hs, fun _ => ?_⟩
    show 1 ≤ untilV d 1 ∧ untilV d 1 ≤ 1000000000000 ∧ (pulseV d (untilV d 1) 1).1.stopped = true ∧ (pulseV d (untilV d 1) 1).2 = 0 ∧ (pulseV d (untilV d 1 - 1) 1).1.stopped = false ∧ (pulseV d (untilV d 1 - 1) 1).2 = 0 ∧ (pulseV d (untilV d 1) 1).1.stack = d.stack ∧ validDig d.stack (pulseV d (untilV d 1) 1).1.shows.l = true ∧ Nums 255 (pulseV d (untilV d 1) 1).1.shows.l ∧ val d.stack (pulseV d (untilV d 1) 1).1.shows.l = d.preset
    rw [pv_hit hs' ⟨hpn, Int.le_refl _⟩, pv_on hs' (n := untilV d 1 - 1) (fun h => by have := h.2; omega)]
    refine ⟨hu.1, by omega, rfl, Int.sub_self _, hs', rfl, rfl, addD_valid hO.stk, addD_num hO.stk, ?_⟩
    show val d.stack (addD d.stack d.shows (1 * untilV d 1)).l = d.preset
    rw [addD_val hO.stk]
    exact until_hits hO hpn (.inl rfl)
end Go.W

/- Acts read from the text that was made of them. -/
set_option linter.unusedVariables false
set_option linter.unusedSimpArgs false
namespace Go.W
open Go Go.Sx
theorem acts_lines (l : List VAct) (k : Nat) : splitA 10 [] (aText l k) = partsF (fun i => actT (l.getD i zA)) k ++ [[]] := by
  have e : aText l k = Lib.join (partsF (fun i => actT (l.getD i zA)) k ++ [[]]) [10] := by
    rw [join_parts]
    simp only [List.append_nil]
    rfl
  rw [e]
  refine split_join _ (by simp) fun x hx => ?_
  rcases List.mem_append.1 hx with hx | hx
  · obtain ⟨i, hi, rfl⟩ := List.mem_map.1 hx
    exact act_no10
  · rw [List.mem_singleton] at hx
    subst hx; simp
theorem acts_back {l : List VAct} (h : ∀ i, i < l.length → validAct (l.getD i zA) = true) (h60 : l.length ≤ 60) {x : RdS VAct} (hx : ActsRd (actsTx l) (x.l, x.code)) : x.l = l ∧ x.code = 0 ∧ (actsTx l).length ≤ 1680 := by
  have e : actsTx l = aText l l.length := actsTx_t (af_valid h60 h)
  have hle := aText_le h h60 (Nat.le_refl _)
  rw [e] at hx ⊢
  have hs := acts_lines l l.length
  have hp := partsF_len (fun i => actT (l.getD i zA)) l.length
  have hr : ActsRd (aText l l.length) (l, 0) := by
    refine .inl ⟨rfl, fun i hi => ⟨h i hi, ?_⟩, by rw [hs, List.length_append, hp]; rfl, ?_, h60⟩
    · have hi : i < l.length := hi
      rw [hs]
      rw [getD_l (by rw [hp]; exact hi), parts_getD _ hi]
    · show (splitA 10 [] (aText l l.length)).getD l.length [] = []
      rw [hs]
      exact getD_r (i := 0) hp
  have := acts_one hx hr
  exact ⟨congrArg Prod.fst this, congrArg Prod.snd this, hle⟩
theorem acts_le {l : List VAct} (h : ∀ i, i < l.length → validAct (l.getD i zA) = true) (h60 : l.length ≤ 60) : (actsTx l).length ≤ 1680 := by
  rw [actsTx_t (af_valid h60 h)]
  exact aText_le h h60 (Nat.le_refl _)
theorem one_facts {d : VDev} {n : Int} (hd : DrDev d) (hn : 0 ≤ n ∧ n ≤ 1000) : (doActV d ⟨1, n⟩).2.2 = 0 ∧ (doActV d ⟨1, n⟩).1.shows = addD d.stack d.shows (n - (doActV d ⟨1, n⟩).2.1) ∧ (0 < (doActV d ⟨1, n⟩).2.1 → (doActV d ⟨1, n⟩).1.stopped = true) ∧ (d.stopped = true → (doActV d ⟨1, n⟩).2.1 = n) ∧ 0 ≤ (doActV d ⟨1, n⟩).2.1 ∧ (doActV d ⟨1, n⟩).2.1 ≤ n := by
  have h := one_lost hd hn.1
  rw [one_do hd (by omega)]
  exact ⟨rfl, h⟩
/-- What the law of devices asks of a preset. -/
structure Stp (d : VDev) : Prop where
  neg : d.preset < 0 → (pulsesV d).2 = 6
  code : 0 ≤ d.preset → (pulsesV d).2 = 0
  flag : 0 ≤ d.preset → d.stopped = decide ((pulsesV d).1 = 0)
  bd : 0 ≤ d.preset → d.stopped = false → 1 ≤ (pulsesV d).1 ∧ (pulsesV d).1 ≤ 1000000000000
  hit : 0 ≤ d.preset → d.stopped = false → (doActV d ⟨1, (pulsesV d).1⟩).2.2 = 0 ∧ (doActV d ⟨1, (pulsesV d).1⟩).1.stopped = true ∧ (doActV d ⟨1, (pulsesV d).1⟩).2.1 = 0
  dig : 0 ≤ d.preset → d.stopped = false → (doActV d ⟨1, (pulsesV d).1⟩).1.stack = d.stack ∧ validDig (doActV d ⟨1, (pulsesV d).1⟩).1.stack (doActV d ⟨1, (pulsesV d).1⟩).1.shows.l = true ∧ Nums 255 (doActV d ⟨1, (pulsesV d).1⟩).1.shows.l ∧ val (doActV d ⟨1, (pulsesV d).1⟩).1.stack (doActV d ⟨1, (pulsesV d).1⟩).1.shows.l = d.preset
  miss : 0 ≤ d.preset → d.stopped = false → (doActV d ⟨1, (pulsesV d).1 - 1⟩).2.2 = 0 ∧ (doActV d ⟨1, (pulsesV d).1 - 1⟩).1.stopped = false ∧ (doActV d ⟨1, (pulsesV d).1 - 1⟩).2.1 = 0
theorem stp {d : VDev} (hd : DrDev d) : Stp d := by
  obtain ⟨h1, h2⟩ := stops hd
  refine ⟨h1, fun h => (h2 h).1, fun h => ?_, fun h hs => ?_, fun h hs => ?_, fun h hs => ?_, fun h hs => ?_⟩
  · obtain ⟨_, h4, h5⟩ := h2 h
    by_cases hs : d.stopped = true
    · rw [hs, decide_eq_true (h4 hs)]
    · have hs : d.stopped = false := by simpa using hs
      have := (h5 hs).1
      rw [hs, decide_eq_false (by omega)]
  · have := (h2 h).2.2 hs
    exact ⟨this.1, this.2.1⟩
  · obtain ⟨a1, a2, a3, a4, a5, a6, a7⟩ := (h2 h).2.2 hs
    rw [one_do hd (by omega)]
    exact ⟨rfl, a3, a4⟩
  · obtain ⟨a1, a2, a3, a4, a5, a6, a7, a8, a9, a10⟩ := (h2 h).2.2 hs
    rw [one_do hd (by omega)]
    show (pulseV d (pulsesV d).1 1).1.stack = d.stack ∧ validDig (pulseV d (pulsesV d).1 1).1.stack (pulseV d (pulsesV d).1 1).1.shows.l = true ∧ Nums 255 (pulseV d (pulsesV d).1 1).1.shows.l ∧ val (pulseV d (pulsesV d).1 1).1.stack (pulseV d (pulsesV d).1 1).1.shows.l = d.preset
    rw [a7]
    exact ⟨rfl, a8, a9, a10⟩
  · obtain ⟨a1, a2, a3, a4, a5, a6, a7⟩ := (h2 h).2.2 hs
    rw [one_do hd (by omega)]
    exact ⟨rfl, a5, a6⟩
end Go.W

/- What these functions of the program hand back, each proved by walking its operations. -/
set_option linter.unusedVariables false
set_option linter.unusedSimpArgs false
set_option maxRecDepth 4000
namespace Go.Proofs.YthabjnhfhmbamaaGreatDoor
open Go Go.Sx Go.RowKit Go.W Go.Proofs
attribute [local irreducible] Ex ExL ExD Op1 Free RetQ MutQ Reads CellO SegO LoadsAs
theorem e_3 : Enters Tryz.prog 3 := Enters.of Tryz.func3 rfl
set_option maxHeartbeats 2000000 in
theorem w_FnDevices (s : List Int) (hus : Nums 255 s) (As : Option Addr) (cs : Nat) (hls : s.length ≤ maxLen) (t : List Int) (hut : Nums 255 t) (At : Option Addr) (ct : Nat) (hlt : t.length ≤ maxLen) : Ret Tryz.prog 3 [.slice As s.length cs, .slice At t.length ct] (fun w => (Rd w As (s.flatMap (eI .u8)) ∧ Rd w At (t.flatMap (eI .u8))) ∧ RdO 0 1 2 w ∧ TabO Tryz.prog w) (fun x : Unit => .bool true) (fun x => []) (fun x => True) := by
  refine Ret.of e_3 Tryz.func3 rfl Tryz.ntmps3 rfl rfl (fun w hpre => ?_)
  have hs := hpre.1.1.base
  have ht := hpre.1.2.base
  have hrd := hpre.2.1
  have htab := hpre.2.2
  have hm0 : maxLen = 9223372036854775807 := rfl
  refine Ex.regSeq (ExL.pures 1 rfl ?_)
  refine ExL.nil ?_
  refine Ex.seq ?_
  refine Ex.regSeq (ExL.pures 1 rfl ?_)
  refine ExL.op rfl (op_ret rfl rfl rfl (c_f6big s _ _ (by omega)) (fun _ _ => trivial) rfl rfl (fun x1 hx1 => ?_))
  refine ExL.pures 1 rfl ?_
  refine ExL.bool (d := 45) rfl (fun hb2 => ?_) (fun hb2 => ?_)
  · replace hb2 := of_decide_eq_true hb2
    refine ExL.pures 3 rfl ?_
    refine ExL.nil ?_
    refine Ex.cond_t rfl ?_
    refine Ex.regSeq (ExL.pures 1 rfl ?_)
    refine ExL.nil ?_
    refine Ex.ret ?_
    refine RetQ.mk () rfl (.tmp rfl .nil) (tB (by first | rfl | exact absurd (hva.symm.trans (by assumption)) (by decide) | exact absurd (hvd1.symm.trans (by assumption)) (by decide) | exact absurd (hvd2.symm.trans (by assumption)) (by decide) | exact absurd ((sameV_refl _).symm.trans (by assumption : sameV _ _ = false)) (by decide) | exact absurd ((hq3 (by omega)).symm.trans (by assumption)) (by decide) | exact absurd (hz2.symm.trans (by assumption)) (by decide) | exact absurd (hz9.symm.trans (by assumption)) (by decide))) [] (rfl) rfl (trivial)
  · replace hb2 := of_decide_eq_false hb2
    refine ExL.pures 1 rfl ?_
    refine ExL.op rfl (op_ret rfl rfl rfl (c_f6big t _ _ (by omega)) (fun _ _ => trivial) rfl rfl (fun x3 hx3 => ?_))
    refine ExL.pures 1 rfl ?_
    refine ExL.nil ?_
    refine Ex.cond rfl (fun hb4 => ?_) (fun hb4 => ?_)
    · replace hb4 := of_decide_eq_true hb4
      refine Ex.regSeq (ExL.pures 1 rfl ?_)
      refine ExL.nil ?_
      refine Ex.ret ?_
      refine RetQ.mk () rfl (.tmp rfl .nil) (tB (by first | rfl | exact absurd (hva.symm.trans (by assumption)) (by decide) | exact absurd (hvd1.symm.trans (by assumption)) (by decide) | exact absurd (hvd2.symm.trans (by assumption)) (by decide) | exact absurd ((sameV_refl _).symm.trans (by assumption : sameV _ _ = false)) (by decide) | exact absurd ((hq3 (by omega)).symm.trans (by assumption)) (by decide) | exact absurd (hz2.symm.trans (by assumption)) (by decide) | exact absurd (hz9.symm.trans (by assumption)) (by decide))) [] (rfl) rfl (trivial)
    · replace hb4 := of_decide_eq_false hb4
      refine Ex.skip ?_
      refine Ex.regSeq (ExL.pures 1 rfl ?_)
      refine ExL.op rfl (op_ret rfl rfl rfl (c_P6Device s _ _ (by omega) (by assumption)) (Reads.get (Reads.old hs)) rfl rfl (fun x5 hx5 => ?_))
      obtain ⟨hkx5, hvx5, hlx5, htx5⟩ := hx5
      have hDx5 : DrDev x5.2 := ⟨hkx5, hvx5, hlx5, htx5⟩
      have hNx5 := hDx5.len
      have hSx5 := hNx5.2.2.1
      have hux5 := hNx5.2.2.2.1
      refine ExL.know (row_some (i := 0) rfl) (fun hrox5 => ?_)
      have hAx5 : x5.1.1 = none → x5.1.2 = 0 := fun e => by have h9 := hrox5.2.2.2 (by omega); rw [e] at h9; cases h9
      refine ExL.op rfl (op_alloc rfl rfl rfl rfl rfl (fun b6 => ?_))
      refine ExL.op rfl (op_storeC (i := 0) rfl rfl rfl rfl rfl rfl rfl rfl rfl rfl ?_)
      refine ExL.nil ?_
      refine Ex.regSeq (ExL.pures 1 rfl ?_)
      refine ExL.free (fr_loadN rfl rfl rfl rfl rfl (SegO.whole (i := 0) rfl)) rfl rfl rfl ?_
      refine ExL.op rfl (op_ret rfl rfl rfl (c_P6Acts t _ _ (by omega) (by assumption) x5.2 (by assumption) _ _) (fun w hw => ⟨Reads.get (Reads.old ht) w hw, Reads.get (Reads.row (i := 1) rfl) w hw⟩) rfl rfl (fun x7 hx7 => ?_))
      have hLx7 := hx7.1
      refine ExL.pures 1 rfl ?_
      refine ExL.nil ?_
      have hvd1 : validDev x5.2 = true := hDx5.2.1
      have hDv := dvl hDx5 hx7
      have hc0 := hDv.code
      have hvd2 := hDv.valid
      have hok2 := hDv.ok
      have hst2 := hDv.stk
      have hle2 : (runV x5.2 x7.2).1.stack.length = x5.2.stack.length := by rw [hst2]
      have hL9 := hx7.1
      have hal := acts_le hDv.act (by omega)
      have hsl := hDv.slen
      have hsc := hDv.scode
      have hsr := hDv.same
      have hs1 := congrArg Prod.fst hsr
      have hs2 := congrArg (fun x => x.2.2.2.1) hsr
      have hs3 := congrArg (fun x => x.2.2.2.2) hsr
      dsimp only at hs1 hs2 hs3
      have hdx : DrDev x5.2 := hDx5
      have hdS : validDig x5.2.stack x5.2.shows.l = true := (devOk hdx.1.2.2.1 hvd1).vd
      have hdN : Nums 255 x5.2.shows.l := hdx.1.2.2.1
      have hSt := stp hdx
      refine Ex.regSeq (ExL.pures 0 rfl ?_)
      refine ExL.free (fr_loadN rfl rfl rfl rfl rfl (SegO.whole (i := 1) rfl)) rfl rfl rfl ?_
      refine ExL.pures 1 rfl ?_
      refine ExL.op rfl (op_ret rfl rfl rfl (c_iDoActs x5.2 (by first | exact hBd | assumption) _ _ (by first | exact hAE | assumption | exact (fun e => nomatch e)) (by omega) x7.2 _ _ (by omega)) (fun w hw => ⟨Reads.get (Reads.row (i := 2) rfl) w hw, Reads.get (Reads.row (i := 0) rfl) w hw⟩) rfl rfl (fun x8 hx8 => ?_))
      refine ExL.pures 4 rfl ?_
      refine ExL.op rfl (op_alloc rfl rfl rfl rfl rfl (fun b9 => ?_))
      refine ExL.op rfl (op_storeC (i := 0) rfl rfl rfl rfl rfl rfl rfl rfl rfl rfl ?_)
      refine ExL.pures 2 rfl ?_
      refine ExL.nil ?_
      refine Ex.regSeq (ExL.pures 0 rfl ?_)
      refine ExL.free (fr_loadN rfl rfl rfl rfl rfl (SegO.whole (i := 3) rfl)) rfl rfl rfl ?_
      refine ExL.pures 1 rfl ?_
      refine ExL.op rfl (op_ret rfl rfl rfl (c_sDoActs x5.2 (by first | exact hBd | assumption) _ _ (by first | exact hAE | assumption | exact (fun e => nomatch e)) (by omega) x7.2 _ _ (by omega)) (fun w hw => ⟨Reads.get (Reads.row (i := 4) rfl) w hw, Reads.get (Reads.row (i := 2) rfl) w hw⟩) rfl rfl (fun x10 hx10 => ?_))
      refine ExL.pures 4 rfl ?_
      refine ExL.op rfl (op_alloc rfl rfl rfl rfl rfl (fun b11 => ?_))
      refine ExL.op rfl (op_storeC (i := 0) rfl rfl rfl rfl rfl rfl rfl rfl rfl rfl ?_)
      refine ExL.pures 2 rfl ?_
      refine ExL.nil ?_
      refine Ex.regSeq (ExL.pures 1 rfl ?_)
      refine ExL.op rfl (op_ret rfl rfl rfl (c_iActsText x7.2 _ _ (by omega)) (fun w hw => ⟨Reads.get (Reads.row (i := 4) rfl) w hw, TabO.keep htab hw⟩) rfl rfl (fun x12 hx12 => ?_))
      refine ExL.op rfl (op_ret rfl rfl rfl (c_iReadActs (actsTx x7.2) (by omega)) (fun w hw => ⟨RdO.keep hrd hw, TabO.keep htab hw⟩) rfl rfl (fun x13 hx13 => ?_))
      refine ExL.pures 5 rfl ?_
      refine ExL.nil ?_
      obtain ⟨hb1, hb2, _⟩ := acts_back hDv.act (by omega) hx13
      rw [hb1, hb2]
      refine Ex.regSeq (ExL.pures 1 rfl ?_)
      refine ExL.op rfl (op_ret rfl rfl rfl (c_iShortActs x7.2 _ _ (by omega)) (Reads.get (Reads.row (i := 5) rfl)) rfl rfl (fun x14 hx14 => ?_))
      refine ExL.pures 5 rfl ?_
      refine ExL.nil ?_
      refine Ex.regSeq (ExL.pures 1 rfl ?_)
      refine ExL.op rfl (op_ret rfl rfl rfl (c_sShortActs x7.2 _ _ (by omega)) (Reads.get (Reads.row (i := 6) rfl)) rfl rfl (fun x15 hx15 => ?_))
      refine ExL.pures 5 rfl ?_
      refine ExL.nil ?_
      refine Ex.regSeq (ExL.pures 0 rfl ?_)
      refine ExL.free (fr_loadN rfl rfl rfl rfl rfl (SegO.whole (i := 8) rfl)) rfl rfl rfl ?_
      refine ExL.pures 1 rfl ?_
      refine ExL.op rfl (op_ret rfl rfl rfl (c_iDoActs x5.2 (by first | exact hBd | assumption) _ _ (by first | exact hAE | assumption | exact (fun e => nomatch e)) (by omega) ((shortV x7.2).1) _ _ (by omega)) (fun w hw => ⟨Reads.get (Reads.row (i := 9) rfl) w hw, Reads.get (Reads.row (i := 0) rfl) w hw⟩) rfl rfl (fun x16 hx16 => ?_))
      refine ExL.pures 4 rfl ?_
      refine ExL.op rfl (op_alloc rfl rfl rfl rfl rfl (fun b17 => ?_))
      refine ExL.op rfl (op_storeC (i := 0) rfl rfl rfl rfl rfl rfl rfl rfl rfl rfl ?_)
      refine ExL.pures 2 rfl ?_
      refine ExL.nil ?_
      refine Ex.seq ?_
      rw [hs1, hs2, hs3]
      refine Ex.regSeq (ExL.pures 2 rfl ?_)
      refine ExL.free (fr_neq_f rfl rfl rfl (fun h => h rfl)) rfl rfl rfl ?_
      refine ExL.pures 2 rfl ?_
      refine ExL.free (fr_neq_f rfl rfl rfl (by rw [hc0]; exact fun h => h rfl)) rfl rfl rfl ?_
      refine ExL.pures 2 rfl ?_
      refine ExL.free (fr_loadN rfl rfl rfl rfl rfl (SegO.whole (i := 7) rfl)) rfl rfl rfl ?_
      refine ExL.free (fr_loadN rfl rfl rfl rfl rfl (SegO.whole (i := 5) rfl)) rfl rfl rfl ?_
      refine ExL.op rfl (op_ret rfl rfl rfl (c_sSameDevice (runV x5.2 x7.2).1 (runV x5.2 x7.2).1 _ _ _ _ (by omega) (by omega)) (fun w hw => ⟨Reads.get (Reads.row (i := 8) rfl) w hw, Reads.get (Reads.row (i := 6) rfl) w hw⟩) rfl rfl (fun x18 hx18 => ?_))
      refine ExL.pures 3 rfl ?_
      refine ExL.bool (d := 104) rfl (fun hb19 => ?_) (fun hb19 => ?_)
      · replace hb19 := nb_t hb19
        refine ExL.pures 67 rfl ?_
        refine ExL.nil ?_
        refine Ex.cond_t rfl ?_
        refine Ex.regSeq (ExL.pures 1 rfl ?_)
        refine ExL.nil ?_
        refine Ex.ret ?_
        refine RetQ.mk () rfl (.tmp rfl .nil) (tB (by first | rfl | exact absurd (hva.symm.trans (by assumption)) (by decide) | exact absurd (hvd1.symm.trans (by assumption)) (by decide) | exact absurd (hvd2.symm.trans (by assumption)) (by decide) | exact absurd ((sameV_refl _).symm.trans (by assumption : sameV _ _ = false)) (by decide) | exact absurd ((hq3 (by omega)).symm.trans (by assumption)) (by decide) | exact absurd (hz2.symm.trans (by assumption)) (by decide) | exact absurd (hz9.symm.trans (by assumption)) (by decide))) [] (rfl) rfl (trivial)
      · replace hb19 := nb_f hb19
        refine ExL.pures 2 rfl ?_
        refine ExL.free (fr_neq_f rfl rfl rfl (fun h => h rfl)) rfl rfl rfl ?_
        refine ExL.pures 3 rfl ?_
        refine ExL.free (fr_neq_f rfl rfl rfl (fun h => h rfl)) rfl rfl rfl ?_
        refine ExL.pures 4 rfl ?_
        refine ExL.op rfl (op_ret rfl rfl rfl (c_SameActs x7.2 _ _ (by omega) _ _) (fun w hw => ⟨Reads.get (Reads.row (i := 4) rfl) w hw, Reads.get (Reads.row (i := 9) rfl) w hw⟩) rfl rfl (fun x20 hx20 => ?_))
        refine ExL.pures 5 rfl ?_
        refine ExL.free (fr_neq_f rfl rfl rfl (fun h => h rfl)) rfl rfl rfl ?_
        refine ExL.pures 3 rfl ?_
        refine ExL.free (fr_neq_f rfl rfl rfl (by rw [hsc]; exact fun h => h rfl)) rfl rfl rfl ?_
        refine ExL.pures 4 rfl ?_
        refine ExL.op rfl (op_ret rfl rfl rfl (c_SameActs ((shortV x7.2).1) _ _ (by omega) _ _) (fun w hw => ⟨Reads.get (Reads.row (i := 3) rfl) w hw, Reads.get (Reads.row (i := 2) rfl) w hw⟩) rfl rfl (fun x21 hx21 => ?_))
        refine ExL.pures 7 rfl ?_
        refine ExL.free (fr_gtr_f rfl rfl rfl (by omega)) rfl rfl rfl ?_
        refine ExL.pures 3 rfl ?_
        refine ExL.free (fr_neq_f rfl rfl rfl (fun h => h rfl)) rfl rfl rfl ?_
        refine ExL.pures 2 rfl ?_
        refine ExL.free (fr_loadN rfl rfl rfl rfl rfl (SegO.whole (i := 0) rfl)) rfl rfl rfl ?_
        refine ExL.free (fr_loadN rfl rfl rfl rfl rfl (SegO.whole (i := 5) rfl)) rfl rfl rfl ?_
        refine ExL.op rfl (op_ret rfl rfl rfl (c_sSameDevice (runV x5.2 x7.2).1 (runV x5.2 x7.2).1 _ _ _ _ (by omega) (by omega)) (fun w hw => ⟨Reads.get (Reads.row (i := 1) rfl) w hw, Reads.get (Reads.row (i := 6) rfl) w hw⟩) rfl rfl (fun x22 hx22 => ?_))
        refine ExL.pures 3 rfl ?_
        refine ExL.bool (d := 151) rfl (fun hb23 => ?_) (fun hb23 => ?_)
        · replace hb23 := nb_t hb23
          refine ExL.pures 20 rfl ?_
          refine ExL.nil ?_
          refine Ex.cond_t rfl ?_
          refine Ex.regSeq (ExL.pures 1 rfl ?_)
          refine ExL.nil ?_
          refine Ex.ret ?_
          refine RetQ.mk () rfl (.tmp rfl .nil) (tB (by first | rfl | exact absurd (hva.symm.trans (by assumption)) (by decide) | exact absurd (hvd1.symm.trans (by assumption)) (by decide) | exact absurd (hvd2.symm.trans (by assumption)) (by decide) | exact absurd ((sameV_refl _).symm.trans (by assumption : sameV _ _ = false)) (by decide) | exact absurd ((hq3 (by omega)).symm.trans (by assumption)) (by decide) | exact absurd (hz2.symm.trans (by assumption)) (by decide) | exact absurd (hz9.symm.trans (by assumption)) (by decide))) [] (rfl) rfl (trivial)
        · replace hb23 := nb_f hb23
          refine ExL.pures 2 rfl ?_
          refine ExL.free (fr_neq_f rfl rfl rfl (fun h => h rfl)) rfl rfl rfl ?_
          refine ExL.pures 2 rfl ?_
          refine ExL.free (fr_loadN rfl rfl rfl rfl rfl (SegO.whole (i := 10) rfl)) rfl rfl rfl ?_
          refine ExL.op rfl (op_ret rfl rfl rfl (c_iValidDevice x5.2 (by assumption) _ _) (Reads.get (Reads.row (i := 11) rfl)) rfl rfl (fun x24 hx24 => ?_))
          refine ExL.pures 3 rfl ?_
          refine ExL.bool (d := 161) rfl (fun hb25 => ?_) (fun hb25 => ?_)
          · replace hb25 := nb_t hb25
            refine ExL.pures 10 rfl ?_
            refine ExL.nil ?_
            refine Ex.cond_t rfl ?_
            refine Ex.regSeq (ExL.pures 1 rfl ?_)
            refine ExL.nil ?_
            refine Ex.ret ?_
            refine RetQ.mk () rfl (.tmp rfl .nil) (tB (by first | rfl | exact absurd (hva.symm.trans (by assumption)) (by decide) | exact absurd (hvd1.symm.trans (by assumption)) (by decide) | exact absurd (hvd2.symm.trans (by assumption)) (by decide) | exact absurd ((sameV_refl _).symm.trans (by assumption : sameV _ _ = false)) (by decide) | exact absurd ((hq3 (by omega)).symm.trans (by assumption)) (by decide) | exact absurd (hz2.symm.trans (by assumption)) (by decide) | exact absurd (hz9.symm.trans (by assumption)) (by decide))) [] (rfl) rfl (trivial)
          · replace hb25 := nb_f hb25
            refine ExL.free (fr_loadN rfl rfl rfl rfl rfl (SegO.whole (i := 5) rfl)) rfl rfl rfl ?_
            refine ExL.op rfl (op_ret rfl rfl rfl (c_iValidDevice (runV x5.2 x7.2).1 (by assumption) _ _) (Reads.get (Reads.row (i := 6) rfl)) rfl rfl (fun x26 hx26 => ?_))
            refine ExL.pures 3 rfl ?_
            refine ExL.bool (d := 166) rfl (fun hb27 => ?_) (fun hb27 => ?_)
            · replace hb27 := nb_t hb27
              refine ExL.pures 5 rfl ?_
              refine ExL.nil ?_
              refine Ex.cond_t rfl ?_
              refine Ex.regSeq (ExL.pures 1 rfl ?_)
              refine ExL.nil ?_
              refine Ex.ret ?_
              refine RetQ.mk () rfl (.tmp rfl .nil) (tB (by first | rfl | exact absurd (hva.symm.trans (by assumption)) (by decide) | exact absurd (hvd1.symm.trans (by assumption)) (by decide) | exact absurd (hvd2.symm.trans (by assumption)) (by decide) | exact absurd ((sameV_refl _).symm.trans (by assumption : sameV _ _ = false)) (by decide) | exact absurd ((hq3 (by omega)).symm.trans (by assumption)) (by decide) | exact absurd (hz2.symm.trans (by assumption)) (by decide) | exact absurd (hz9.symm.trans (by assumption)) (by decide))) [] (rfl) rfl (trivial)
            · replace hb27 := nb_f hb27
              refine ExL.free (fr_loadN rfl rfl rfl rfl rfl (SegO.whole (i := 5) rfl)) rfl rfl rfl ?_
              refine ExL.free (fr_loadN rfl rfl rfl rfl rfl (SegO.whole (i := 0) rfl)) rfl rfl rfl ?_
              refine ExL.op rfl (op_ret rfl rfl rfl (c_iSameDevice (runV x5.2 x7.2).1 (runV x5.2 x7.2).1 _ _ _ _ (by omega) (by omega)) (fun w hw => ⟨Reads.get (Reads.row (i := 6) rfl) w hw, Reads.get (Reads.row (i := 1) rfl) w hw⟩) rfl rfl (fun x28 hx28 => ?_))
              refine ExL.pures 2 rfl ?_
              refine ExL.nil ?_
              refine Ex.cond rfl (fun hb29 => ?_) (fun hb29 => ?_)
              · replace hb29 := nb_t hb29
                refine Ex.regSeq (ExL.pures 1 rfl ?_)
                refine ExL.nil ?_
                refine Ex.ret ?_
                refine RetQ.mk () rfl (.tmp rfl .nil) (tB (by first | rfl | exact absurd (hva.symm.trans (by assumption)) (by decide) | exact absurd (hvd1.symm.trans (by assumption)) (by decide) | exact absurd (hvd2.symm.trans (by assumption)) (by decide) | exact absurd ((sameV_refl _).symm.trans (by assumption : sameV _ _ = false)) (by decide) | exact absurd ((hq3 (by omega)).symm.trans (by assumption)) (by decide) | exact absurd (hz2.symm.trans (by assumption)) (by decide) | exact absurd (hz9.symm.trans (by assumption)) (by decide))) [] (rfl) rfl (trivial)
              · replace hb29 := nb_f hb29
                refine Ex.skip ?_
                refine Ex.seq ?_
                refine Ex.regSeq (ExL.pures 1 rfl ?_)
                refine ExL.nil ?_
                refine Ex.block ?_
                refine Ex.loopK (X := Nat) (fun k => [(22, .int .i64 k)]) (fun k => []) (fun k => k ≤ x7.2.length) (fun k => x7.2.length - k) 0 [(0, _), (5, _), (6, _)] [_, _, _] 12 [9, 10, 11] ⟨rfl, trivial⟩ ⟨rfl, rfl, rfl, trivial⟩ (rfl) rfl (Nat.zero_le _) (fun k hI => ?_)
                have hI : k ≤ x7.2.length := hI
                refine Ex.seq ?_
                refine Ex.regSeq (ExL.pures 3 rfl ?_)
                refine ExL.lss rfl rfl rfl rfl rfl rfl (fun h30 => ?_) (fun h30 => ?_)
                · refine ExL.nil ?_
                  refine Ex.cond_t rfl ?_
                  refine Ex.skip ?_
                  refine Ex.seq ?_
                  refine Ex.block ?_
                  have hkl : k < x7.2.length := by omega
                  have hva := hDv.act k hkl
                  refine Ex.regSeq (ExL.pures 2 rfl ?_)
                  refine ExL.free (fr_indexAddrR (sz := 2) 0 rfl rfl rfl rfl rfl rfl (by omega)) rfl rfl rfl ?_
                  refine ExL.free (fr_loadN rfl rfl rfl rfl rfl (by first | exact segN (Reads.row (i := 0) rfl) encA_len rfl zA (by omega) | exact segF (Reads.row (i := 0) rfl) encA_len rfl zA (by omega))) rfl rfl rfl ?_
                  refine ExL.op rfl (op_ret rfl rfl rfl (c_ValidAct _) (fun _ _ => trivial) rfl rfl (fun x31 hx31 => ?_))
                  refine ExL.pures 1 rfl ?_
                  refine ExL.nil ?_
                  refine Ex.cond rfl (fun hb32 => ?_) (fun hb32 => ?_)
                  · replace hb32 := nb_t hb32
                    refine Ex.regSeq (ExL.pures 1 rfl ?_)
                    refine ExL.nil ?_
                    refine Ex.ret ?_
                    refine RetQ.mk () rfl (.tmp rfl .nil) (tB (by first | rfl | exact absurd (hva.symm.trans (by assumption)) (by decide) | exact absurd (hvd1.symm.trans (by assumption)) (by decide) | exact absurd (hvd2.symm.trans (by assumption)) (by decide) | exact absurd ((sameV_refl _).symm.trans (by assumption : sameV _ _ = false)) (by decide) | exact absurd ((hq3 (by omega)).symm.trans (by assumption)) (by decide) | exact absurd (hz2.symm.trans (by assumption)) (by decide) | exact absurd (hz9.symm.trans (by assumption)) (by decide))) [] (rfl) rfl (trivial)
                  · replace hb32 := nb_f hb32
                    refine Ex.skip ?_
                    refine Ex.region (ExL.pures 1 rfl ?_)
                    refine ExL.free (by first | exact fr_add64 rfl rfl rfl (by omega) | exact fr_add rfl rfl rfl) rfl rfl rfl ?_
                    refine ExL.pures 1 rfl ?_
                    refine ExL.nil ?_
                    refine Hand.mk (k + 1) 3 [0, 1, 2] ⟨rfl, trivial⟩ ⟨rfl, rfl, rfl, trivial⟩ (rfl) rfl (by omega) (by omega)
                · refine ExL.nil ?_
                  refine Ex.cond_f rfl ?_
                  refine Ex.exit ?_
                  refine Ex.regSeq (ExL.pures 1 rfl ?_)
                  refine ExL.op rfl (op_ret rfl rfl rfl (c_P6Pick s _ _ (by omega) (by assumption) 40 (by omega)) (Reads.get (Reads.old hs)) rfl rfl (fun x33 hx33 => ?_))
                  obtain ⟨kx33, hkx33⟩ : ∃ k : Nat, x33 = (k : Int) := ⟨x33.toNat, by omega⟩
                  subst hkx33
                  refine ExL.pures 1 rfl ?_
                  refine ExL.nil ?_
                  have hof := one_facts (n := (kx33 : Nat)) hdx (by omega)
                  obtain ⟨hq1, hq2, hq3, hq4, hq5, hq6⟩ := hof
                  have hdl9 := da_len x5.2 ⟨1, ↑kx33⟩
                  have hoa1 : OkAct ⟨1, ↑kx33⟩ := by unfold OkAct I64; dsimp only; omega
                  refine Ex.regSeq (ExL.pures 0 rfl ?_)
                  refine ExL.free (fr_loadN rfl rfl rfl rfl rfl (SegO.whole (i := 1) rfl)) rfl rfl rfl ?_
                  refine ExL.pures 1 rfl ?_
                  refine ExL.free (fr_build (cells := encA ⟨1, ↑kx33⟩) rfl rfl rfl (by kernel_rfl)) rfl rfl rfl ?_
                  refine ExL.op rfl (op_ret rfl rfl rfl (c_iDoAct x5.2 (by assumption) _ _ (by first | assumption | exact (fun e => nomatch e)) (by omega) (⟨1, ↑kx33⟩ : VAct) (by assumption)) (Reads.get (Reads.row (i := 2) rfl)) rfl rfl (fun x34 hx34 => ?_))
                  refine ExL.pures 4 rfl ?_
                  refine ExL.op rfl (op_alloc rfl rfl rfl rfl rfl (fun b35 => ?_))
                  refine ExL.op rfl (op_storeC (i := 0) rfl rfl rfl rfl rfl rfl rfl rfl rfl rfl ?_)
                  refine ExL.pures 2 rfl ?_
                  refine ExL.nil ?_
                  refine Ex.regSeq (ExL.pures 0 rfl ?_)
                  refine ExL.free (fr_loadN rfl rfl rfl rfl rfl (SegO.whole (i := 3) rfl)) rfl rfl rfl ?_
                  refine ExL.pures 1 rfl ?_
                  refine ExL.free (fr_build (cells := encA ⟨1, ↑kx33⟩) rfl rfl rfl (by kernel_rfl)) rfl rfl rfl ?_
                  refine ExL.op rfl (op_ret rfl rfl rfl (c_sDoAct x5.2 (by assumption) _ _ (by first | assumption | exact (fun e => nomatch e)) (by omega) (⟨1, ↑kx33⟩ : VAct) (by assumption)) (Reads.get (Reads.row (i := 4) rfl)) rfl rfl (fun x36 hx36 => ?_))
                  refine ExL.pures 4 rfl ?_
                  refine ExL.op rfl (op_alloc rfl rfl rfl rfl rfl (fun b37 => ?_))
                  refine ExL.op rfl (op_storeC (i := 0) rfl rfl rfl rfl rfl rfl rfl rfl rfl rfl ?_)
                  refine ExL.pures 2 rfl ?_
                  refine ExL.nil ?_
                  refine Ex.regSeq (ExL.pures 1 rfl ?_)
                  refine ExL.free (fr_load rfl rfl rfl rfl (CellO.blk (i := 5) rfl rfl)) rfl rfl rfl ?_
                  refine ExL.pures 1 rfl ?_
                  refine ExL.free (fr_loadN rfl rfl rfl rfl rfl (SegO.part (i := 5) 8 rfl)) rfl rfl rfl ?_
                  refine ExL.pures 2 rfl ?_
                  refine ExL.free (by first | exact fr_sub64 rfl rfl rfl (by omega) | exact fr_sub rfl rfl rfl) rfl rfl rfl ?_
                  refine ExL.op rfl (op_ret rfl rfl rfl (c_AddTo x5.2.stack (by first | assumption | simp_all) _ _ x5.2.shows (by assumption) (by first | assumption | simp_all) (by assumption) _ (by omega)) (Reads.get (Reads.row (i := 6) rfl)) rfl rfl (fun x38 hx38 => ?_))
                  refine ExL.pures 4 rfl ?_
                  refine ExL.op rfl (op_alloc rfl rfl rfl rfl rfl (fun b39 => ?_))
                  refine ExL.op rfl (op_storeC (i := 0) rfl rfl rfl rfl rfl rfl rfl rfl rfl rfl ?_)
                  refine ExL.pures 2 rfl ?_
                  refine ExL.nil ?_
                  refine Ex.seq ?_
                  refine Ex.regSeq (ExL.pures 2 rfl ?_)
                  refine ExL.free (fr_neq_f rfl rfl rfl (fun h => h rfl)) rfl rfl rfl ?_
                  refine ExL.pures 2 rfl ?_
                  refine ExL.free (fr_neq_f rfl rfl rfl (by rw [hq1]; exact fun h => h rfl)) rfl rfl rfl ?_
                  refine ExL.pures 2 rfl ?_
                  refine ExL.free (fr_loadN rfl rfl rfl rfl rfl (SegO.whole (i := 3) rfl)) rfl rfl rfl ?_
                  refine ExL.free (fr_loadN rfl rfl rfl rfl rfl (SegO.whole (i := 1) rfl)) rfl rfl rfl ?_
                  refine ExL.op rfl (op_ret rfl rfl rfl (c_sSameDevice (doActV x5.2 (⟨1, ↑kx33⟩ : VAct)).1 (doActV x5.2 (⟨1, ↑kx33⟩ : VAct)).1 _ _ _ _ (by omega) (by omega)) (fun w hw => ⟨Reads.get (Reads.row (i := 4) rfl) w hw, Reads.get (Reads.row (i := 2) rfl) w hw⟩) rfl rfl (fun x40 hx40 => ?_))
                  refine ExL.pures 3 rfl ?_
                  refine ExL.bool (d := 227) rfl (fun hb41 => ?_) (fun hb41 => ?_)
                  · replace hb41 := nb_t hb41
                    refine ExL.pures 23 rfl ?_
                    refine ExL.nil ?_
                    refine Ex.cond_t rfl ?_
                    refine Ex.regSeq (ExL.pures 1 rfl ?_)
                    refine ExL.nil ?_
                    refine Ex.ret ?_
                    refine RetQ.mk () rfl (.tmp rfl .nil) (tB (by first | rfl | exact absurd (hva.symm.trans (by assumption)) (by decide) | exact absurd (hvd1.symm.trans (by assumption)) (by decide) | exact absurd (hvd2.symm.trans (by assumption)) (by decide) | exact absurd ((sameV_refl _).symm.trans (by assumption : sameV _ _ = false)) (by decide) | exact absurd ((hq3 (by omega)).symm.trans (by assumption)) (by decide) | exact absurd (hz2.symm.trans (by assumption)) (by decide) | exact absurd (hz9.symm.trans (by assumption)) (by decide))) [] (rfl) rfl (trivial)
                  · replace hb41 := nb_f hb41
                    refine ExL.pures 2 rfl ?_
                    refine ExL.free (fr_neq_f rfl rfl rfl (fun h => h rfl)) rfl rfl rfl ?_
                    refine ExL.pures 3 rfl ?_
                    refine ExL.free (fr_neq_f rfl rfl rfl (fun h => h rfl)) rfl rfl rfl ?_
                    refine ExL.pures 3 rfl ?_
                    refine ExL.free (fr_loadN rfl rfl rfl rfl rfl (SegO.part (i := 1) 8 rfl)) rfl rfl rfl ?_
                    refine ExL.free (fr_loadN rfl rfl rfl rfl rfl (SegO.whole (i := 0) rfl)) rfl rfl rfl ?_
                    refine ExL.free (fr_neq_ints_eq (doActV x5.2 ⟨1, ↑kx33⟩).1.shows.l (addD x5.2.stack x5.2.shows (↑kx33 - (doActV x5.2 ⟨1, ↑kx33⟩).2.1)).l (by rw [hq2]) rfl rfl rfl rfl rfl rfl rfl rfl rfl rfl) rfl rfl rfl ?_
                    refine ExL.pures 3 rfl ?_
                    refine ExL.gtr rfl rfl rfl rfl rfl rfl (fun h42 => ?_) (fun h42 => ?_)
                    · refine ExL.pures 2 rfl ?_
                      refine ExL.free (fr_load rfl rfl rfl rfl (CellO.blk (i := 1) rfl rfl)) rfl rfl rfl ?_
                      refine ExL.pures 3 rfl ?_
                      refine ExL.nil ?_
                      refine Ex.cond rfl (fun hb43 => ?_) (fun hb43 => ?_)
                      · replace hb43 := nb_t hb43
                        refine Ex.regSeq (ExL.pures 1 rfl ?_)
                        refine ExL.nil ?_
                        refine Ex.ret ?_
                        refine RetQ.mk () rfl (.tmp rfl .nil) (tB (by first | rfl | exact absurd (hva.symm.trans (by assumption)) (by decide) | exact absurd (hvd1.symm.trans (by assumption)) (by decide) | exact absurd (hvd2.symm.trans (by assumption)) (by decide) | exact absurd ((sameV_refl _).symm.trans (by assumption : sameV _ _ = false)) (by decide) | exact absurd ((hq3 (by omega)).symm.trans (by assumption)) (by decide) | exact absurd (hz2.symm.trans (by assumption)) (by decide) | exact absurd (hz9.symm.trans (by assumption)) (by decide))) [] (rfl) rfl (trivial)
                      · replace hb43 := nb_f hb43
                        refine Ex.skip ?_
                        refine Ex.regSeq (ExL.pures 0 rfl ?_)
                        refine ExL.free (fr_loadN rfl rfl rfl rfl rfl (SegO.whole (i := 6) rfl)) rfl rfl rfl ?_
                        refine ExL.op rfl (op_ret rfl rfl rfl (c_iPulsesUntilStop x5.2 (by assumption) _ _) (Reads.get (Reads.row (i := 7) rfl)) rfl rfl (fun x44 hx44 => ?_))
                        refine ExL.pures 5 rfl ?_
                        refine ExL.nil ?_
                        refine Ex.seq ?_
                        refine Ex.regSeq (ExL.pures 1 rfl ?_)
                        refine ExL.free (fr_load rfl rfl rfl rfl (CellO.blk (i := 6) rfl rfl)) rfl rfl rfl ?_
                        refine ExL.lss rfl rfl rfl rfl rfl rfl (fun h45 => ?_) (fun h45 => ?_)
                        · refine ExL.nil ?_
                          refine Ex.cond_t rfl ?_
                          refine Ex.regSeq (ExL.pures 1 rfl ?_)
                          refine ExL.free (fr_eql_t rfl rfl rfl (hSt.neg (by assumption))) rfl rfl rfl ?_
                          refine ExL.pures 1 rfl ?_
                          refine ExL.nil ?_
                          refine Ex.ret ?_
                          refine RetQ.mk () rfl (.tmp rfl .nil) (tB (by first | rfl | exact absurd (hva.symm.trans (by assumption)) (by decide) | exact absurd (hvd1.symm.trans (by assumption)) (by decide) | exact absurd (hvd2.symm.trans (by assumption)) (by decide) | exact absurd ((sameV_refl _).symm.trans (by assumption : sameV _ _ = false)) (by decide) | exact absurd ((hq3 (by omega)).symm.trans (by assumption)) (by decide) | exact absurd (hz2.symm.trans (by assumption)) (by decide) | exact absurd (hz9.symm.trans (by assumption)) (by decide))) [] (rfl) rfl (trivial)
                        · refine ExL.nil ?_
                          refine Ex.cond_f rfl ?_
                          refine Ex.skip ?_
                          refine Ex.seq ?_
                          refine Ex.regSeq (ExL.pures 1 rfl ?_)
                          refine ExL.free (fr_neq_f rfl rfl rfl (by rw [hSt.code (by omega)]; exact fun h => h rfl)) rfl rfl rfl ?_
                          refine ExL.pures 2 rfl ?_
                          refine ExL.free (fr_load rfl rfl rfl rfl (CellO.blk (i := 6) rfl rfl)) rfl rfl rfl ?_
                          refine ExL.pures 1 rfl ?_
                          refine ExL.free (fr_eql rfl rfl rfl) rfl rfl rfl ?_
                          refine ExL.free (fr_neq_bool_eq (hSt.flag (by omega)) rfl rfl rfl rfl) rfl rfl rfl ?_
                          refine ExL.pures 1 rfl ?_
                          refine ExL.nil ?_
                          refine Ex.cond_f rfl ?_
                          refine Ex.skip ?_
                          refine Ex.seq ?_
                          refine Ex.regSeq (ExL.pures 1 rfl ?_)
                          refine ExL.free (fr_load rfl rfl rfl rfl (CellO.blk (i := 6) rfl rfl)) rfl rfl rfl ?_
                          refine ExL.nil ?_
                          refine Ex.cond rfl (fun hb46 => ?_) (fun hb46 => ?_)
                          · refine Ex.regSeq (ExL.pures 2 rfl ?_)
                            refine ExL.free (fr_eql_t rfl rfl rfl (hq4 (by assumption))) rfl rfl rfl ?_
                            refine ExL.pures 1 rfl ?_
                            refine ExL.nil ?_
                            refine Ex.ret ?_
                            refine RetQ.mk () rfl (.tmp rfl .nil) (tB (by first | rfl | exact absurd (hva.symm.trans (by assumption)) (by decide) | exact absurd (hvd1.symm.trans (by assumption)) (by decide) | exact absurd (hvd2.symm.trans (by assumption)) (by decide) | exact absurd ((sameV_refl _).symm.trans (by assumption : sameV _ _ = false)) (by decide) | exact absurd ((hq3 (by omega)).symm.trans (by assumption)) (by decide) | exact absurd (hz2.symm.trans (by assumption)) (by decide) | exact absurd (hz9.symm.trans (by assumption)) (by decide))) [] (rfl) rfl (trivial)
                          · refine Ex.skip ?_
                            have hbd9 := hSt.bd (by omega) (by assumption)
                            have hoa2 : OkAct ⟨1, (pulsesV x5.2).1⟩ := by unfold OkAct I64; dsimp only; omega
                            have hoa3 : OkAct ⟨1, (pulsesV x5.2).1 - 1⟩ := by unfold OkAct I64; dsimp only; omega
                            obtain ⟨hz1, hz2, hz3⟩ := hSt.hit (by omega) (by assumption)
                            obtain ⟨hz4, hz5, hz6, hz7⟩ := hSt.dig (by omega) (by assumption)
                            obtain ⟨hz8, hz9, hza⟩ := hSt.miss (by omega) (by assumption)
                            have hzs : validStack (doActV x5.2 ⟨1, (pulsesV x5.2).1⟩).1.stack = true := by rw [hz4]; assumption
                            have hzn : Nums 255 (doActV x5.2 ⟨1, (pulsesV x5.2).1⟩).1.stack := by rw [hz4]; assumption
                            refine Ex.regSeq (ExL.pures 0 rfl ?_)
                            refine ExL.free (fr_loadN rfl rfl rfl rfl rfl (SegO.whole (i := 6) rfl)) rfl rfl rfl ?_
                            refine ExL.pures 1 rfl ?_
                            refine ExL.free (fr_build (cells := encA ⟨1, (pulsesV x5.2).1⟩) rfl rfl rfl (by kernel_rfl)) rfl rfl rfl ?_
                            refine ExL.op rfl (op_ret rfl rfl rfl (c_iDoAct x5.2 (by assumption) _ _ (by first | assumption | exact (fun e => nomatch e)) (by omega) (⟨1, (pulsesV x5.2).1⟩ : VAct) (by assumption)) (Reads.get (Reads.row (i := 7) rfl)) rfl rfl (fun x47 hx47 => ?_))
                            refine ExL.pures 4 rfl ?_
                            refine ExL.op rfl (op_alloc rfl rfl rfl rfl rfl (fun b48 => ?_))
                            refine ExL.op rfl (op_storeC (i := 0) rfl rfl rfl rfl rfl rfl rfl rfl rfl rfl ?_)
                            refine ExL.pures 2 rfl ?_
                            refine ExL.nil ?_
                            refine Ex.regSeq (ExL.pures 0 rfl ?_)
                            refine ExL.free (fr_loadN rfl rfl rfl rfl rfl (SegO.whole (i := 8) rfl)) rfl rfl rfl ?_
                            refine ExL.pures 1 rfl ?_
                            refine ExL.free (by first | exact fr_sub64 rfl rfl rfl (by omega) | exact fr_sub rfl rfl rfl) rfl rfl rfl ?_
                            refine ExL.free (fr_build (cells := encA ⟨1, (pulsesV x5.2).1 - 1⟩) rfl rfl rfl (by kernel_rfl)) rfl rfl rfl ?_
                            refine ExL.op rfl (op_ret rfl rfl rfl (c_iDoAct x5.2 (by assumption) _ _ (by first | assumption | exact (fun e => nomatch e)) (by omega) (⟨1, (pulsesV x5.2).1 - 1⟩ : VAct) (by assumption)) (Reads.get (Reads.row (i := 9) rfl)) rfl rfl (fun x49 hx49 => ?_))
                            refine ExL.pures 4 rfl ?_
                            refine ExL.op rfl (op_alloc rfl rfl rfl rfl rfl (fun b50 => ?_))
                            refine ExL.op rfl (op_storeC (i := 0) rfl rfl rfl rfl rfl rfl rfl rfl rfl rfl ?_)
                            refine ExL.pures 2 rfl ?_
                            refine ExL.nil ?_
                            refine Ex.regSeq (ExL.pures 1 rfl ?_)
                            refine ExL.free (fr_load rfl rfl rfl rfl (CellO.blk (i := 2) rfl rfl)) rfl rfl rfl ?_
                            refine ExL.pures 1 rfl ?_
                            refine ExL.free (fr_loadN rfl rfl rfl rfl rfl (SegO.part (i := 2) 8 rfl)) rfl rfl rfl ?_
                            refine ExL.op rfl (op_ret rfl rfl rfl (c_ValueOf (doActV x5.2 (⟨1, (pulsesV x5.2).1⟩ : VAct)).1.stack (by assumption) (by assumption) _ _ (doActV x5.2 (⟨1, (pulsesV x5.2).1⟩ : VAct)).1.shows (by assumption) (by assumption)) (Reads.get (Reads.row (i := 3) rfl)) rfl rfl (fun x51 hx51 => ?_))
                            refine ExL.pures 5 rfl ?_
                            refine ExL.nil ?_
                            refine Ex.regSeq (ExL.pures 1 rfl ?_)
                            refine ExL.free (fr_eql_t rfl rfl rfl (hz1)) rfl rfl rfl ?_
                            refine ExL.pures 2 rfl ?_
                            refine ExL.free (fr_load rfl rfl rfl rfl (CellO.blk (i := 2) rfl rfl)) rfl rfl rfl ?_
                            refine ExL.pures 2 rfl ?_
                            refine ExL.bool (d := 306) rfl (fun hb52 => ?_) (fun hb52 => ?_)
                            · refine ExL.pures 1 rfl ?_
                              refine ExL.free (fr_eql_t rfl rfl rfl (hz3)) rfl rfl rfl ?_
                              refine ExL.pures 3 rfl ?_
                              refine ExL.free (fr_eql_t rfl rfl rfl (hz8)) rfl rfl rfl ?_
                              refine ExL.pures 3 rfl ?_
                              refine ExL.free (fr_load rfl rfl rfl rfl (CellO.blk (i := 0) rfl rfl)) rfl rfl rfl ?_
                              refine ExL.pures 3 rfl ?_
                              refine ExL.bool (d := 319) rfl (fun hb53 => ?_) (fun hb53 => ?_)
                              · replace hb53 := nb_t hb53
                                refine ExL.pures 1 rfl ?_
                                refine ExL.free (fr_eql_t rfl rfl rfl (hza)) rfl rfl rfl ?_
                                refine ExL.pures 3 rfl ?_
                                refine ExL.free (fr_eql_t rfl rfl rfl (rfl)) rfl rfl rfl ?_
                                refine ExL.pures 4 rfl ?_
                                refine ExL.free (fr_load rfl rfl rfl rfl (CellO.blk (i := 10) rfl rfl)) rfl rfl rfl ?_
                                refine ExL.free (fr_eql_t rfl rfl rfl (hz7)) rfl rfl rfl ?_
                                refine ExL.pures 2 rfl ?_
                                refine ExL.nil ?_
                                refine Ex.ret ?_
                                refine RetQ.mk () rfl (.tmp rfl .nil) (tB (by first | rfl | exact absurd (hva.symm.trans (by assumption)) (by decide) | exact absurd (hvd1.symm.trans (by assumption)) (by decide) | exact absurd (hvd2.symm.trans (by assumption)) (by decide) | exact absurd ((sameV_refl _).symm.trans (by assumption : sameV _ _ = false)) (by decide) | exact absurd ((hq3 (by omega)).symm.trans (by assumption)) (by decide) | exact absurd (hz2.symm.trans (by assumption)) (by decide) | exact absurd (hz9.symm.trans (by assumption)) (by decide))) [] (rfl) rfl (trivial)
                              · replace hb53 := nb_f hb53
                                refine ExL.pures 14 rfl ?_
                                refine ExL.nil ?_
                                refine Ex.ret ?_
                                refine RetQ.mk () rfl (.tmp rfl .nil) (tB (by first | rfl | exact absurd (hva.symm.trans (by assumption)) (by decide) | exact absurd (hvd1.symm.trans (by assumption)) (by decide) | exact absurd (hvd2.symm.trans (by assumption)) (by decide) | exact absurd ((sameV_refl _).symm.trans (by assumption : sameV _ _ = false)) (by decide) | exact absurd ((hq3 (by omega)).symm.trans (by assumption)) (by decide) | exact absurd (hz2.symm.trans (by assumption)) (by decide) | exact absurd (hz9.symm.trans (by assumption)) (by decide))) [] (rfl) rfl (trivial)
                            · refine ExL.pures 27 rfl ?_
                              refine ExL.nil ?_
                              refine Ex.ret ?_
                              refine RetQ.mk () rfl (.tmp rfl .nil) (tB (by first | rfl | exact absurd (hva.symm.trans (by assumption)) (by decide) | exact absurd (hvd1.symm.trans (by assumption)) (by decide) | exact absurd (hvd2.symm.trans (by assumption)) (by decide) | exact absurd ((sameV_refl _).symm.trans (by assumption : sameV _ _ = false)) (by decide) | exact absurd ((hq3 (by omega)).symm.trans (by assumption)) (by decide) | exact absurd (hz2.symm.trans (by assumption)) (by decide) | exact absurd (hz9.symm.trans (by assumption)) (by decide))) [] (rfl) rfl (trivial)
                    · refine ExL.pures 6 rfl ?_
                      refine ExL.nil ?_
                      refine Ex.cond_f rfl ?_
                      refine Ex.skip ?_
                      refine Ex.regSeq (ExL.pures 0 rfl ?_)
                      refine ExL.free (fr_loadN rfl rfl rfl rfl rfl (SegO.whole (i := 6) rfl)) rfl rfl rfl ?_
                      refine ExL.op rfl (op_ret rfl rfl rfl (c_iPulsesUntilStop x5.2 (by assumption) _ _) (Reads.get (Reads.row (i := 7) rfl)) rfl rfl (fun x54 hx54 => ?_))
                      refine ExL.pures 5 rfl ?_
                      refine ExL.nil ?_
                      refine Ex.seq ?_
                      refine Ex.regSeq (ExL.pures 1 rfl ?_)
                      refine ExL.free (fr_load rfl rfl rfl rfl (CellO.blk (i := 6) rfl rfl)) rfl rfl rfl ?_
                      refine ExL.lss rfl rfl rfl rfl rfl rfl (fun h55 => ?_) (fun h55 => ?_)
                      · refine ExL.nil ?_
                        refine Ex.cond_t rfl ?_
                        refine Ex.regSeq (ExL.pures 1 rfl ?_)
                        refine ExL.free (fr_eql_t rfl rfl rfl (hSt.neg (by assumption))) rfl rfl rfl ?_
                        refine ExL.pures 1 rfl ?_
                        refine ExL.nil ?_
                        refine Ex.ret ?_
                        refine RetQ.mk () rfl (.tmp rfl .nil) (tB (by first | rfl | exact absurd (hva.symm.trans (by assumption)) (by decide) | exact absurd (hvd1.symm.trans (by assumption)) (by decide) | exact absurd (hvd2.symm.trans (by assumption)) (by decide) | exact absurd ((sameV_refl _).symm.trans (by assumption : sameV _ _ = false)) (by decide) | exact absurd ((hq3 (by omega)).symm.trans (by assumption)) (by decide) | exact absurd (hz2.symm.trans (by assumption)) (by decide) | exact absurd (hz9.symm.trans (by assumption)) (by decide))) [] (rfl) rfl (trivial)
                      · refine ExL.nil ?_
                        refine Ex.cond_f rfl ?_
                        refine Ex.skip ?_
                        refine Ex.seq ?_
                        refine Ex.regSeq (ExL.pures 1 rfl ?_)
                        refine ExL.free (fr_neq_f rfl rfl rfl (by rw [hSt.code (by omega)]; exact fun h => h rfl)) rfl rfl rfl ?_
                        refine ExL.pures 2 rfl ?_
                        refine ExL.free (fr_load rfl rfl rfl rfl (CellO.blk (i := 6) rfl rfl)) rfl rfl rfl ?_
                        refine ExL.pures 1 rfl ?_
                        refine ExL.free (fr_eql rfl rfl rfl) rfl rfl rfl ?_
                        refine ExL.free (fr_neq_bool_eq (hSt.flag (by omega)) rfl rfl rfl rfl) rfl rfl rfl ?_
                        refine ExL.pures 1 rfl ?_
                        refine ExL.nil ?_
                        refine Ex.cond_f rfl ?_
                        refine Ex.skip ?_
                        refine Ex.seq ?_
                        refine Ex.regSeq (ExL.pures 1 rfl ?_)
                        refine ExL.free (fr_load rfl rfl rfl rfl (CellO.blk (i := 6) rfl rfl)) rfl rfl rfl ?_
                        refine ExL.nil ?_
                        refine Ex.cond rfl (fun hb56 => ?_) (fun hb56 => ?_)
                        · refine Ex.regSeq (ExL.pures 2 rfl ?_)
                          refine ExL.free (fr_eql_t rfl rfl rfl (hq4 (by assumption))) rfl rfl rfl ?_
                          refine ExL.pures 1 rfl ?_
                          refine ExL.nil ?_
                          refine Ex.ret ?_
                          refine RetQ.mk () rfl (.tmp rfl .nil) (tB (by first | rfl | exact absurd (hva.symm.trans (by assumption)) (by decide) | exact absurd (hvd1.symm.trans (by assumption)) (by decide) | exact absurd (hvd2.symm.trans (by assumption)) (by decide) | exact absurd ((sameV_refl _).symm.trans (by assumption : sameV _ _ = false)) (by decide) | exact absurd ((hq3 (by omega)).symm.trans (by assumption)) (by decide) | exact absurd (hz2.symm.trans (by assumption)) (by decide) | exact absurd (hz9.symm.trans (by assumption)) (by decide))) [] (rfl) rfl (trivial)
                        · refine Ex.skip ?_
                          have hbd9 := hSt.bd (by omega) (by assumption)
                          have hoa2 : OkAct ⟨1, (pulsesV x5.2).1⟩ := by unfold OkAct I64; dsimp only; omega
                          have hoa3 : OkAct ⟨1, (pulsesV x5.2).1 - 1⟩ := by unfold OkAct I64; dsimp only; omega
                          obtain ⟨hz1, hz2, hz3⟩ := hSt.hit (by omega) (by assumption)
                          obtain ⟨hz4, hz5, hz6, hz7⟩ := hSt.dig (by omega) (by assumption)
                          obtain ⟨hz8, hz9, hza⟩ := hSt.miss (by omega) (by assumption)
                          have hzs : validStack (doActV x5.2 ⟨1, (pulsesV x5.2).1⟩).1.stack = true := by rw [hz4]; assumption
                          have hzn : Nums 255 (doActV x5.2 ⟨1, (pulsesV x5.2).1⟩).1.stack := by rw [hz4]; assumption
                          refine Ex.regSeq (ExL.pures 0 rfl ?_)
                          refine ExL.free (fr_loadN rfl rfl rfl rfl rfl (SegO.whole (i := 6) rfl)) rfl rfl rfl ?_
                          refine ExL.pures 1 rfl ?_
                          refine ExL.free (fr_build (cells := encA ⟨1, (pulsesV x5.2).1⟩) rfl rfl rfl (by kernel_rfl)) rfl rfl rfl ?_
                          refine ExL.op rfl (op_ret rfl rfl rfl (c_iDoAct x5.2 (by assumption) _ _ (by first | assumption | exact (fun e => nomatch e)) (by omega) (⟨1, (pulsesV x5.2).1⟩ : VAct) (by assumption)) (Reads.get (Reads.row (i := 7) rfl)) rfl rfl (fun x57 hx57 => ?_))
                          refine ExL.pures 4 rfl ?_
                          refine ExL.op rfl (op_alloc rfl rfl rfl rfl rfl (fun b58 => ?_))
                          refine ExL.op rfl (op_storeC (i := 0) rfl rfl rfl rfl rfl rfl rfl rfl rfl rfl ?_)
                          refine ExL.pures 2 rfl ?_
                          refine ExL.nil ?_
                          refine Ex.regSeq (ExL.pures 0 rfl ?_)
                          refine ExL.free (fr_loadN rfl rfl rfl rfl rfl (SegO.whole (i := 8) rfl)) rfl rfl rfl ?_
                          refine ExL.pures 1 rfl ?_
                          refine ExL.free (by first | exact fr_sub64 rfl rfl rfl (by omega) | exact fr_sub rfl rfl rfl) rfl rfl rfl ?_
                          refine ExL.free (fr_build (cells := encA ⟨1, (pulsesV x5.2).1 - 1⟩) rfl rfl rfl (by kernel_rfl)) rfl rfl rfl ?_
                          refine ExL.op rfl (op_ret rfl rfl rfl (c_iDoAct x5.2 (by assumption) _ _ (by first | assumption | exact (fun e => nomatch e)) (by omega) (⟨1, (pulsesV x5.2).1 - 1⟩ : VAct) (by assumption)) (Reads.get (Reads.row (i := 9) rfl)) rfl rfl (fun x59 hx59 => ?_))
                          refine ExL.pures 4 rfl ?_
                          refine ExL.op rfl (op_alloc rfl rfl rfl rfl rfl (fun b60 => ?_))
                          refine ExL.op rfl (op_storeC (i := 0) rfl rfl rfl rfl rfl rfl rfl rfl rfl rfl ?_)
                          refine ExL.pures 2 rfl ?_
                          refine ExL.nil ?_
                          refine Ex.regSeq (ExL.pures 1 rfl ?_)
                          refine ExL.free (fr_load rfl rfl rfl rfl (CellO.blk (i := 2) rfl rfl)) rfl rfl rfl ?_
                          refine ExL.pures 1 rfl ?_
                          refine ExL.free (fr_loadN rfl rfl rfl rfl rfl (SegO.part (i := 2) 8 rfl)) rfl rfl rfl ?_
                          refine ExL.op rfl (op_ret rfl rfl rfl (c_ValueOf (doActV x5.2 (⟨1, (pulsesV x5.2).1⟩ : VAct)).1.stack (by assumption) (by assumption) _ _ (doActV x5.2 (⟨1, (pulsesV x5.2).1⟩ : VAct)).1.shows (by assumption) (by assumption)) (Reads.get (Reads.row (i := 3) rfl)) rfl rfl (fun x61 hx61 => ?_))
                          refine ExL.pures 5 rfl ?_
                          refine ExL.nil ?_
                          refine Ex.regSeq (ExL.pures 1 rfl ?_)
                          refine ExL.free (fr_eql_t rfl rfl rfl (hz1)) rfl rfl rfl ?_
                          refine ExL.pures 2 rfl ?_
                          refine ExL.free (fr_load rfl rfl rfl rfl (CellO.blk (i := 2) rfl rfl)) rfl rfl rfl ?_
                          refine ExL.pures 2 rfl ?_
                          refine ExL.bool (d := 306) rfl (fun hb62 => ?_) (fun hb62 => ?_)
                          · refine ExL.pures 1 rfl ?_
                            refine ExL.free (fr_eql_t rfl rfl rfl (hz3)) rfl rfl rfl ?_
                            refine ExL.pures 3 rfl ?_
                            refine ExL.free (fr_eql_t rfl rfl rfl (hz8)) rfl rfl rfl ?_
                            refine ExL.pures 3 rfl ?_
                            refine ExL.free (fr_load rfl rfl rfl rfl (CellO.blk (i := 0) rfl rfl)) rfl rfl rfl ?_
                            refine ExL.pures 3 rfl ?_
                            refine ExL.bool (d := 319) rfl (fun hb63 => ?_) (fun hb63 => ?_)
                            · replace hb63 := nb_t hb63
                              refine ExL.pures 1 rfl ?_
                              refine ExL.free (fr_eql_t rfl rfl rfl (hza)) rfl rfl rfl ?_
                              refine ExL.pures 3 rfl ?_
                              refine ExL.free (fr_eql_t rfl rfl rfl (rfl)) rfl rfl rfl ?_
                              refine ExL.pures 4 rfl ?_
                              refine ExL.free (fr_load rfl rfl rfl rfl (CellO.blk (i := 10) rfl rfl)) rfl rfl rfl ?_
                              refine ExL.free (fr_eql_t rfl rfl rfl (hz7)) rfl rfl rfl ?_
                              refine ExL.pures 2 rfl ?_
                              refine ExL.nil ?_
                              refine Ex.ret ?_
                              refine RetQ.mk () rfl (.tmp rfl .nil) (tB (by first | rfl | exact absurd (hva.symm.trans (by assumption)) (by decide) | exact absurd (hvd1.symm.trans (by assumption)) (by decide) | exact absurd (hvd2.symm.trans (by assumption)) (by decide) | exact absurd ((sameV_refl _).symm.trans (by assumption : sameV _ _ = false)) (by decide) | exact absurd ((hq3 (by omega)).symm.trans (by assumption)) (by decide) | exact absurd (hz2.symm.trans (by assumption)) (by decide) | exact absurd (hz9.symm.trans (by assumption)) (by decide))) [] (rfl) rfl (trivial)
                            · replace hb63 := nb_f hb63
                              refine ExL.pures 14 rfl ?_
                              refine ExL.nil ?_
                              refine Ex.ret ?_
                              refine RetQ.mk () rfl (.tmp rfl .nil) (tB (by first | rfl | exact absurd (hva.symm.trans (by assumption)) (by decide) | exact absurd (hvd1.symm.trans (by assumption)) (by decide) | exact absurd (hvd2.symm.trans (by assumption)) (by decide) | exact absurd ((sameV_refl _).symm.trans (by assumption : sameV _ _ = false)) (by decide) | exact absurd ((hq3 (by omega)).symm.trans (by assumption)) (by decide) | exact absurd (hz2.symm.trans (by assumption)) (by decide) | exact absurd (hz9.symm.trans (by assumption)) (by decide))) [] (rfl) rfl (trivial)
                          · refine ExL.pures 27 rfl ?_
                            refine ExL.nil ?_
                            refine Ex.ret ?_
                            refine RetQ.mk () rfl (.tmp rfl .nil) (tB (by first | rfl | exact absurd (hva.symm.trans (by assumption)) (by decide) | exact absurd (hvd1.symm.trans (by assumption)) (by decide) | exact absurd (hvd2.symm.trans (by assumption)) (by decide) | exact absurd ((sameV_refl _).symm.trans (by assumption : sameV _ _ = false)) (by decide) | exact absurd ((hq3 (by omega)).symm.trans (by assumption)) (by decide) | exact absurd (hz2.symm.trans (by assumption)) (by decide) | exact absurd (hz9.symm.trans (by assumption)) (by decide))) [] (rfl) rfl (trivial)
end Go.Proofs.YthabjnhfhmbamaaGreatDoor
