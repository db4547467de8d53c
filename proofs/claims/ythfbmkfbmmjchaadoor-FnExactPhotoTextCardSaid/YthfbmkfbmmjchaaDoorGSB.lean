/- What these functions of the program hand back, each proved by walking its operations. -/
import Derived.Test.YthfbmkfbmmjchaaDoorProg
import Derived.Test.YthfbmkfbmmjchaaDoorFw
import Derived.Test.YthfbmkfbmmjchaaDoorF12
import Derived.Test.YthfbmkfbmmjchaaDoorSF
import Derived.Test.YthfbmkfbmmjchaaDoorM2
set_option linter.unusedVariables false
set_option linter.unusedSimpArgs false
set_option maxRecDepth 4000
namespace Go.Proofs.YthfbmkfbmmjchaaDoor
open Go Go.Sx Go.RowKit Go.W Go.Proofs
attribute [local irreducible] Ex ExL ExD Op1 Free RetQ MutQ Reads CellO SegO LoadsAs
theorem e_90 : Enters Tryd.prog 90 := Enters.of Tryd.func90 rfl
theorem c_FormatInt (n : Int) (hn : -9223372036854775808 ≤ n ∧ n ≤ 9223372036854775807) : Ret Tryd.prog 90 [.int .i64 n, .int .i64 10] (fun w => TabO Tryd.prog w) (fun _ : Unit => sv (Lib.itoa n)) (fun _ => []) (fun _ => True) :=
  ⟨e_90, fun w ht => (Go.Proofs.Tryd.strconv_FormatInt_10 n hn.1 hn.2 w ht).mono (by rintro e w' ⟨rfl, q, os, rfl⟩; exact ⟨(), trivial, rfl, below_grw w q os, by simp, List.Pairwise.nil⟩)⟩
theorem e_55 : Enters Tryd.prog 55 := Enters.of Tryd.func55 rfl
theorem c_decimal (n : Int) (hn : -9223372036854775808 ≤ n ∧ n ≤ 9223372036854775807) : Ret Tryd.prog 55 [.int .i64 n] (fun w => TabO Tryd.prog w) (fun x : Unit => sv (Lib.itoa n)) (fun x => []) (fun x => True) := by
  refine Ret.of e_55 Tryd.func55 rfl Tryd.ntmps55 rfl rfl (fun w hpre => ?_)
  have htab := hpre
  refine Ex.regSeq (ExL.pures 1 rfl ?_)
  refine ExL.nil ?_
  refine Ex.regSeq (ExL.pures 1 rfl ?_)
  refine ExL.op rfl (op_ret rfl rfl rfl (c_FormatInt n (by omega)) (fun w hw => TabO.keep htab hw) rfl rfl (fun x1 hx1 => ?_))
  refine ExL.pures 1 rfl ?_
  refine ExL.nil ?_
  refine Ex.ret ?_
  refine RetQ.mk () rfl (.tmp rfl .nil) (rfl) [] (rfl) rfl (trivial)
theorem e_83 : Enters Tryd.prog 83 := Enters.of Tryd.func83 rfl
set_option maxHeartbeats 1000000 in
theorem dec_step (n : Int) (hn : 0 ≤ n ∧ n ≤ 9223372036854775807) (ih : 10 ≤ n → Ret Tryd.prog 83 [.int .i64 (n / 10)] (fun _ => True) (fun _ : Unit => sv (Lib.itoa (n / 10))) (fun _ => []) (fun _ => True)) : Ret Tryd.prog 83 [.int .i64 n] (fun w => True) (fun x : Unit => sv (Lib.itoa n)) (fun x => []) (fun x => True) := by
  refine Ret.of e_83 Tryd.func83 rfl Tryd.ntmps83 rfl rfl (fun w hpre => ?_)
  have hm1 := Int.emod_nonneg n (show (10 : Int) ≠ 0 by decide)
  have hm2 := Int.emod_lt_of_pos n (show (0 : Int) < 10 by decide)
  have hd1 : 0 ≤ n / 10 ∧ n / 10 ≤ n := by omega
  refine Ex.regSeq (ExL.pures 1 rfl ?_)
  refine ExL.nil ?_
  refine Ex.seq ?_
  refine Ex.regSeq (ExL.pures 1 rfl ?_)
  refine ExL.lss rfl rfl rfl rfl rfl rfl (fun h1 => ?_) (fun h1 => ?_)
  · refine ExL.nil ?_
    refine Ex.cond_t rfl ?_
    refine Ex.regSeq (ExL.pures 1 rfl ?_)
    refine ExL.free (by first | exact fr_remP rfl rfl rfl (by omega) | exact fr_rem rfl rfl rfl (by omega)) rfl rfl rfl ?_
    refine ExL.free (by first | exact fr_add64 rfl rfl rfl (by omega) | exact fr_add rfl rfl rfl) rfl rfl rfl ?_
    refine ExL.free (by first | exact fr_conv_u8 rfl rfl rfl rfl (by omega) | exact fr_conv rfl rfl rfl rfl) rfl rfl rfl ?_
    refine ExL.op rfl (op_buildSlice (sz := 1) rfl rfl rfl rfl rfl rfl rfl rfl (by decide) rfl rfl rfl (fun r2 => ?_))
    refine ExL.free (fr_convBS ([UInt8.ofNat (48 + n % 10).toNat]) rfl rfl (Reads.row (i := 0) rfl) (eU_one (by omega)) rfl (by decide) rfl rfl rfl) rfl rfl rfl ?_
    refine ExL.pures 1 rfl ?_
    refine ExL.nil ?_
    refine Ex.ret ?_
    refine RetQ.mk () rfl (.tmp rfl .nil) (tS (by first | exact (itoa_one (by omega) (by omega)).symm | exact (itoa_more (by omega) (by omega)).symm)) [] (rfl) rfl (trivial)
  · refine ExL.nil ?_
    refine Ex.cond_f rfl ?_
    refine Ex.skip ?_
    have hil := itoa_le (n := n / 10) (by omega)
    refine Ex.drawSeqM rfl ?_
    refine ExD.take (i := 0) rfl (by kernel_rfl) (pureVal_ok rfl) ((List.Sublist.refl _)) rfl rfl rfl ?_
    refine ExD.take (i := 1) rfl (by kernel_rfl) (by first | exact fr_quo64 rfl rfl rfl (by omega) | exact fr_quo rfl rfl rfl (by omega)) ((List.Sublist.refl _)) rfl rfl rfl ?_
    refine ExD.take (i := 3) rfl (by kernel_rfl) (pureVal_ok rfl) ((List.Sublist.refl _)) rfl rfl rfl ?_
    refine ExD.take (i := 4) rfl (by kernel_rfl) (by first | exact fr_remP rfl rfl rfl (by omega) | exact fr_rem rfl rfl rfl (by omega)) ((List.Sublist.refl _)) rfl rfl rfl ?_
    refine ExD.take (i := 5) rfl (by kernel_rfl) (by first | exact fr_add64 rfl rfl rfl (by omega) | exact fr_add rfl rfl rfl) ((List.Sublist.refl _)) rfl rfl rfl ?_
    refine ExD.take (i := 6) rfl (by kernel_rfl) (by first | exact fr_conv_u8 rfl rfl rfl rfl (by omega) | exact fr_conv rfl rfl rfl rfl) ((List.Sublist.refl _)) rfl rfl rfl ?_
    refine ExD.fork (i := 2) (j := 7) rfl rfl (by kernel_rfl) rfl rfl (op_ret rfl rfl rfl (ih (by omega)) (fun _ _ => trivial) rfl rfl (fun x3 hx3 => ⟨(List.Sublist.refl _), ?_⟩)) (op_buildSlice (sz := 1) rfl rfl rfl rfl rfl rfl rfl rfl (by decide) rfl rfl rfl (fun r4 => ⟨(List.nil_sublist _), ?_⟩))
    · refine ExD.op (i := 7) rfl (by kernel_rfl) rfl (op_buildSlice (sz := 1) rfl rfl rfl rfl rfl rfl rfl rfl (by decide) rfl rfl rfl (fun r5 => ⟨(List.nil_sublist _), ?_⟩))
      refine ExD.op (i := 8) rfl (by kernel_rfl) rfl (Op1.of_free (fr_convBS ([UInt8.ofNat (48 + n % 10).toNat]) rfl rfl (Reads.row (i := 0) rfl) (eU_one (by omega)) rfl (by decide) rfl rfl rfl) rfl rfl ⟨(List.nil_sublist _), ?_⟩)
      refine ExD.take (i := 9) rfl (by kernel_rfl) (fr_addS (l := Lib.itoa (n / 10)) (r := [UInt8.ofNat (48 + n % 10).toNat]) rfl rfl rfl (by first | omega | (simp only [List.length_append, List.length_cons, List.length_nil]; omega))) ((List.nil_sublist _)) rfl rfl rfl ?_
      refine ExD.take (i := 10) rfl (by kernel_rfl) (pureVal_ok rfl) ((List.nil_sublist _)) rfl rfl rfl ?_
      refine ExD.done (by kernel_rfl) ?_
      refine Ex.ret ?_
      refine RetQ.mk () rfl (.tmp rfl .nil) (tS (by first | exact (itoa_one (by omega) (by omega)).symm | exact (itoa_more (by omega) (by omega)).symm)) [] (rfl) rfl (trivial)
    · refine ExD.fork (i := 2) (j := 8) rfl rfl (by kernel_rfl) rfl rfl (op_ret rfl rfl rfl (ih (by omega)) (fun _ _ => trivial) rfl rfl (fun x6 hx6 => ⟨(List.nil_sublist _), ?_⟩)) (Op1.of_free (fr_convBS ([UInt8.ofNat (48 + n % 10).toNat]) rfl rfl (Reads.row (i := 0) rfl) (eU_one (by omega)) rfl (by decide) rfl rfl rfl) rfl rfl ⟨(List.nil_sublist _), ?_⟩)
      · refine ExD.op (i := 8) rfl (by kernel_rfl) rfl (Op1.of_free (fr_convBS ([UInt8.ofNat (48 + n % 10).toNat]) rfl rfl (Reads.row (i := 0) rfl) (eU_one (by omega)) rfl (by decide) rfl rfl rfl) rfl rfl ⟨(List.nil_sublist _), ?_⟩)
        refine ExD.take (i := 9) rfl (by kernel_rfl) (fr_addS (l := Lib.itoa (n / 10)) (r := [UInt8.ofNat (48 + n % 10).toNat]) rfl rfl rfl (by first | omega | (simp only [List.length_append, List.length_cons, List.length_nil]; omega))) ((List.nil_sublist _)) rfl rfl rfl ?_
        refine ExD.take (i := 10) rfl (by kernel_rfl) (pureVal_ok rfl) ((List.nil_sublist _)) rfl rfl rfl ?_
        refine ExD.done (by kernel_rfl) ?_
        refine Ex.ret ?_
        refine RetQ.mk () rfl (.tmp rfl .nil) (tS (by first | exact (itoa_one (by omega) (by omega)).symm | exact (itoa_more (by omega) (by omega)).symm)) [] (rfl) rfl (trivial)
      · refine ExD.op (i := 2) rfl (by kernel_rfl) rfl (op_ret rfl rfl rfl (ih (by omega)) (fun _ _ => trivial) rfl rfl (fun x7 hx7 => ⟨(List.nil_sublist _), ?_⟩))
        refine ExD.take (i := 9) rfl (by kernel_rfl) (fr_addS (l := Lib.itoa (n / 10)) (r := [UInt8.ofNat (48 + n % 10).toNat]) rfl rfl rfl (by first | omega | (simp only [List.length_append, List.length_cons, List.length_nil]; omega))) ((List.nil_sublist _)) rfl rfl rfl ?_
        refine ExD.take (i := 10) rfl (by kernel_rfl) (pureVal_ok rfl) ((List.nil_sublist _)) rfl rfl rfl ?_
        refine ExD.done (by kernel_rfl) ?_
        refine Ex.ret ?_
        refine RetQ.mk () rfl (.tmp rfl .nil) (tS (by first | exact (itoa_one (by omega) (by omega)).symm | exact (itoa_more (by omega) (by omega)).symm)) [] (rfl) rfl (trivial)
theorem c_sDecimal (n : Int) (hn : 0 ≤ n ∧ n ≤ 9223372036854775807) : Ret Tryd.prog 83 [.int .i64 n] (fun _ => True) (fun _ : Unit => sv (Lib.itoa n)) (fun _ => []) (fun _ => True) := by
  induction hk : n.toNat using Nat.strongRecOn generalizing n with
  | ind k ih => exact dec_step n hn (fun h10 => ih (n / 10).toNat (by omega) (n / 10) (by omega) rfl)
end Go.Proofs.YthfbmkfbmmjchaaDoor
