/- What these functions of the program hand back, each proved by walking its operations. -/
import Derived.Test.YthfbmkfbmmjchaaDoorProg
import Derived.Test.YthfbmkfbmmjchaaDoorFw
import Derived.Test.YthfbmkfbmmjchaaDoorM38
import Derived.Test.YthfbmkfbmmjchaaDoorGPB
set_option linter.unusedVariables false
set_option linter.unusedSimpArgs false
set_option maxRecDepth 4000
namespace Go.Proofs.YthfbmkfbmmjchaaDoor
open Go Go.Sx Go.RowKit Go.W Go.Proofs
attribute [local irreducible] Ex ExL ExD Op1 Free RetQ MutQ Reads CellO SegO LoadsAs
theorem e_74 : Enters Tryd.prog 74 := Enters.of Tryd.func74 rfl
theorem c_ones (v : Int) (hx : 0 ≤ v ∧ v < 18446744073709551616) : Ret Tryd.prog 74 [.int .u64 v] (fun w => True) (fun x : Unit => .int .i64 (popI v)) (fun x => []) (fun x => True) := by
  refine Ret.of e_74 Tryd.func74 rfl Tryd.ntmps74 rfl rfl (fun w hpre => ?_)
  refine Ex.regSeq (ExL.pures 1 rfl ?_)
  refine ExL.nil ?_
  refine Ex.regSeq (ExL.pures 1 rfl ?_)
  refine ExL.free (fr_shr rfl rfl rfl (by omega)) rfl rfl rfl ?_
  refine ExL.free (by first | exact fr_and255 rfl rfl rfl (by omega) | exact fr_bits rfl rfl rfl (by simp)) rfl rfl rfl ?_
  refine ExL.pures 1 rfl ?_
  refine ExL.free (by first | exact fr_and255 rfl rfl rfl (by omega) | exact fr_bits rfl rfl rfl (by simp)) rfl rfl rfl ?_
  refine ExL.free (fr_add rfl rfl rfl) rfl rfl rfl ?_
  refine ExL.pures 1 rfl ?_
  refine ExL.nil ?_
  obtain ⟨a, ha⟩ : ∃ z, IntKind.u64.wrap (bits .and .u64 (v / 2 ^ min (1 : Int).toNat IntKind.u64.bits) 6148914691236517205 + bits .and .u64 v 6148914691236517205) = z := ⟨_, rfl⟩
  rw [ha]
  refine Ex.regSeq (ExL.pures 1 rfl ?_)
  refine ExL.free (fr_shr rfl rfl rfl (by omega)) rfl rfl rfl ?_
  refine ExL.free (by first | exact fr_and255 rfl rfl rfl (by omega) | exact fr_bits rfl rfl rfl (by simp)) rfl rfl rfl ?_
  refine ExL.pures 1 rfl ?_
  refine ExL.free (by first | exact fr_and255 rfl rfl rfl (by omega) | exact fr_bits rfl rfl rfl (by simp)) rfl rfl rfl ?_
  refine ExL.free (fr_add rfl rfl rfl) rfl rfl rfl ?_
  refine ExL.pures 1 rfl ?_
  refine ExL.nil ?_
  obtain ⟨b, hb⟩ : ∃ z, IntKind.u64.wrap (bits .and .u64 (a / 2 ^ min (2 : Int).toNat IntKind.u64.bits) 3689348814741910323 + bits .and .u64 a 3689348814741910323) = z := ⟨_, rfl⟩
  rw [hb]
  refine Ex.regSeq (ExL.pures 1 rfl ?_)
  refine ExL.free (fr_shr rfl rfl rfl (by omega)) rfl rfl rfl ?_
  refine ExL.pures 1 rfl ?_
  refine ExL.free (fr_add rfl rfl rfl) rfl rfl rfl ?_
  refine ExL.free (by first | exact fr_and255 rfl rfl rfl (by omega) | exact fr_bits rfl rfl rfl (by simp)) rfl rfl rfl ?_
  refine ExL.pures 1 rfl ?_
  refine ExL.nil ?_
  obtain ⟨c, hc⟩ : ∃ z, bits .and .u64 (IntKind.u64.wrap (b / 2 ^ min (4 : Int).toNat IntKind.u64.bits + b)) 1085102592571150095 = z := ⟨_, rfl⟩
  rw [hc]
  refine Ex.regSeq (ExL.pures 2 rfl ?_)
  refine ExL.free (fr_shr rfl rfl rfl (by omega)) rfl rfl rfl ?_
  refine ExL.free (fr_add rfl rfl rfl) rfl rfl rfl ?_
  refine ExL.pures 1 rfl ?_
  refine ExL.nil ?_
  obtain ⟨d, hd⟩ : ∃ z, IntKind.u64.wrap (c + c / 2 ^ min (8 : Int).toNat IntKind.u64.bits) = z := ⟨_, rfl⟩
  rw [hd]
  refine Ex.regSeq (ExL.pures 2 rfl ?_)
  refine ExL.free (fr_shr rfl rfl rfl (by omega)) rfl rfl rfl ?_
  refine ExL.free (fr_add rfl rfl rfl) rfl rfl rfl ?_
  refine ExL.pures 1 rfl ?_
  refine ExL.nil ?_
  obtain ⟨e, he⟩ : ∃ z, IntKind.u64.wrap (d + d / 2 ^ min (16 : Int).toNat IntKind.u64.bits) = z := ⟨_, rfl⟩
  rw [he]
  refine Ex.regSeq (ExL.pures 2 rfl ?_)
  refine ExL.free (fr_shr rfl rfl rfl (by omega)) rfl rfl rfl ?_
  refine ExL.free (fr_add rfl rfl rfl) rfl rfl rfl ?_
  refine ExL.pures 1 rfl ?_
  refine ExL.nil ?_
  obtain ⟨f, hf⟩ : ∃ z, IntKind.u64.wrap (e + e / 2 ^ min (32 : Int).toNat IntKind.u64.bits) = z := ⟨_, rfl⟩
  rw [hf]
  have hq := ones64' hx ha hb hc hd he hf
  have hq0 := hq.1
  have hq1 := hq.2.1
  refine Ex.regSeq (ExL.pures 1 rfl ?_)
  refine ExL.free (by first | exact fr_conv64 rfl rfl rfl rfl (by omega) | exact fr_conv rfl rfl rfl rfl) rfl rfl rfl ?_
  refine ExL.free (by first | exact fr_and255 rfl rfl rfl (by omega) | exact fr_bits rfl rfl rfl (by simp)) rfl rfl rfl ?_
  refine ExL.pures 1 rfl ?_
  refine ExL.nil ?_
  refine Ex.ret ?_
  refine RetQ.mk () rfl (.tmp rfl .nil) (tI (by obtain ⟨q0, q1, q2⟩ := ones64' hx ha hb hc hd he hf; rw [and127 ⟨q0, q1⟩, q2])) [] (rfl) rfl (trivial)
theorem e_42 : Enters Tryd.prog 42 := Enters.of Tryd.func42 rfl
theorem c_count (m : VMk) (hm : OkMk m) : Ret Tryd.prog 42 [.agg (encMk m).toArray] (fun w => True) (fun x : Unit => .int .i64 (cntM m)) (fun x => []) (fun x => True) := by
  refine Ret.of e_42 Tryd.func42 rfl Tryd.ntmps42 rfl rfl (fun w hpre => ?_)
  have hb0 := popI_bd m.lo
  have hb1 := popI_bd m.hi
  refine Ex.regSeq (ExL.pures 0 rfl ?_)
  refine ExL.op rfl (op_box rfl rfl rfl rfl rfl (fun b1 => ?_))
  refine ExL.pures 1 rfl ?_
  refine ExL.nil ?_
  refine Ex.drawSeqM rfl ?_
  refine ExD.take (i := 0) rfl (by kernel_rfl) (fr_indexAddr_b (sz := 1) rfl rfl rfl rfl rfl (by omega)) ((List.Sublist.refl _)) rfl rfl rfl ?_
  refine ExD.take (i := 1) rfl (by kernel_rfl) (fr_load rfl rfl rfl rfl (CellO.blk (i := 0) rfl rfl)) ((List.Sublist.refl _)) rfl rfl rfl ?_
  refine ExD.take (i := 3) rfl (by kernel_rfl) (fr_indexAddr_b (sz := 1) rfl rfl rfl rfl rfl (by omega)) ((List.Sublist.refl _)) rfl rfl rfl ?_
  refine ExD.take (i := 4) rfl (by kernel_rfl) (fr_load rfl rfl rfl rfl (CellO.blk (i := 0) rfl rfl)) ((List.Sublist.refl _)) rfl rfl rfl ?_
  refine ExD.op (i := 2) rfl (by kernel_rfl) rfl (op_ret rfl rfl rfl (c_ones m.lo (hm.1)) (fun _ _ => trivial) rfl rfl (fun x2 hx2 => ⟨(List.Sublist.refl _), ?_⟩))
  refine ExD.op (i := 5) rfl (by kernel_rfl) rfl (op_ret rfl rfl rfl (c_ones m.hi (hm.2)) (fun _ _ => trivial) rfl rfl (fun x3 hx3 => ⟨(List.Sublist.refl _), ?_⟩))
  refine ExD.take (i := 6) rfl (by kernel_rfl) (by first | exact fr_add64 rfl rfl rfl (by omega) | exact fr_add rfl rfl rfl) ((List.Sublist.refl _)) rfl rfl rfl ?_
  refine ExD.take (i := 7) rfl (by kernel_rfl) (pureVal_ok rfl) ((List.Sublist.refl _)) rfl rfl rfl ?_
  refine ExD.done (by kernel_rfl) ?_
  refine Ex.ret ?_
  refine RetQ.mk () rfl (.tmp rfl .nil) (rfl) [] (rfl) rfl (trivial)
theorem e_43 : Enters Tryd.prog 43 := Enters.of Tryd.func43 rfl
theorem c_digitsM (m : VMk) (hm : OkMk m) : Ret Tryd.prog 43 [.agg (encMk m).toArray] (fun w => True) (fun x : Option Addr × Nat => .slice x.1 (digI m).length x.2) (fun x => [.row (.slice x.1 (digI m).length x.2) 3 1 (digI m).length ((digI m).flatMap (eI .i64))]) (fun x => True) := by
  refine Ret.of e_43 Tryd.func43 rfl Tryd.ntmps43 rfl rfl (fun w hpre => ?_)
  have hm0 : maxLen = 9223372036854775807 := rfl
  refine Ex.regSeq (ExL.pures 0 rfl ?_)
  refine ExL.op rfl (op_box rfl rfl rfl rfl rfl (fun b1 => ?_))
  refine ExL.pures 1 rfl ?_
  refine ExL.nil ?_
  refine Ex.regSeq (ExL.pures 0 rfl ?_)
  refine ExL.op rfl (op_buildSlice (sz := 1) rfl rfl rfl rfl rfl rfl rfl rfl (by decide) rfl rfl rfl (fun r2 => ?_))
  refine ExL.pures 1 rfl ?_
  refine ExL.nil ?_
  refine Ex.seq ?_
  refine Ex.regSeq (ExL.pures 1 rfl ?_)
  refine ExL.nil ?_
  refine Ex.block ?_
  refine Ex.loopA (fun k A c => [(3, .slice A (digP m k).length c), (6, .int .i64 k)]) (fun k A c => [.row (.slice A (digP m k).length c) 3 1 (digP m k).length ((digP m k).flatMap (eI .i64))]) (fun k => k ≤ 128) (fun k => 128 - k) 0 ((some ⟨r2, 0, none⟩)) (0) [(1, _), (2, _)] [_] 2 [0, 1] ⟨rfl, rfl, trivial⟩ ⟨rfl, rfl, trivial⟩ (rfl) rfl (by omega) (fun k A c hI => ?_)
  have hI : k ≤ 128 := hI
  have hdl := digP_len m k
  refine Ex.regSeq (ExL.pures 0 rfl ?_)
  refine ExL.lss rfl rfl rfl rfl rfl rfl (fun h3 => ?_) (fun h3 => ?_)
  · refine ExL.nil ?_
    refine Ex.seq ?_
    refine Ex.cond_t rfl ?_
    refine Ex.skip ?_
    refine Ex.seq ?_
    refine Ex.block ?_
    refine Ex.regSeq (ExL.pures 2 rfl ?_)
    refine ExL.nil ?_
    refine Ex.regSeq (ExL.pures 0 rfl ?_)
    refine ExL.free (fr_loadN rfl rfl rfl rfl rfl (SegO.whole (i := 1) rfl)) rfl rfl rfl ?_
    refine ExL.pures 1 rfl ?_
    refine ExL.op rfl (op_ret rfl rfl rfl (c_has m hm _ (by omega)) (fun _ _ => trivial) rfl rfl (fun x4 hx4 => ?_))
    refine ExL.nil ?_
    refine Ex.cond rfl (fun hb5 => ?_) (fun hb5 => ?_)
    · refine Ex.region (ExL.pures 2 rfl ?_)
      refine ExL.op rfl (op_buildSlice (sz := 1) rfl rfl rfl rfl rfl rfl rfl rfl (by decide) rfl rfl rfl (fun r6 => ?_))
      refine ExL.op rfl (op_append (sz := 1) (bytes := 8) (i := 1) rfl rfl rfl rfl (Reads.row (i := 0) rfl) rfl (fun e => nomatch e) rfl rfl rfl rfl (by constructor <;> first | omega | (unfold maxLen; omega)) rfl rfl (fun A7 cA7 => ?_))
      refine ExL.pures 1 rfl ?_
      refine ExL.nil ?_
      refine Ex.region (ExL.pures 0 rfl ?_)
      refine ExL.free (by first | exact fr_add64 rfl rfl rfl (by omega) | exact fr_add rfl rfl rfl) rfl rfl rfl ?_
      refine ExL.pures 1 rfl ?_
      refine ExL.nil ?_
      refine HandA.of (k + 1) (A7) (cA7) 3 [1, 2] ⟨(by first | (rw [digP_n (by assumption)]; first | done | rfl) | (rw [digP_y (by assumption), List.length_append]; rfl)), rfl, trivial⟩ ⟨rfl, rfl, trivial⟩ (by first | (rw [digP_n (by assumption)]; first | done | rfl) | (rw [digP_y (by assumption), List.length_append, List.flatMap_append]; rfl)) rfl (by omega) (by omega)
    · refine Ex.skip ?_
      refine Ex.region (ExL.pures 0 rfl ?_)
      refine ExL.free (by first | exact fr_add64 rfl rfl rfl (by omega) | exact fr_add rfl rfl rfl) rfl rfl rfl ?_
      refine ExL.pures 1 rfl ?_
      refine ExL.nil ?_
      refine HandA.of (k + 1) (A) (c) 2 [0, 1] ⟨(by first | (rw [digP_n (by assumption)]; first | done | rfl) | (rw [digP_y (by assumption), List.length_append]; rfl)), rfl, trivial⟩ ⟨rfl, rfl, trivial⟩ (by first | (rw [digP_n (by assumption)]; first | done | rfl) | (rw [digP_y (by assumption), List.length_append, List.flatMap_append]; rfl)) rfl (by omega) (by omega)
  · refine ExL.nil ?_
    refine Ex.seq ?_
    refine Ex.cond_f rfl ?_
    refine Ex.exit ?_
    obtain rfl : k = 128 := (by omega)
    refine Ex.regSeq (ExL.pures 2 rfl ?_)
    refine ExL.nil ?_
    refine Ex.ret ?_
    refine RetQ.mk (A, c) rfl (.tmp rfl .nil) (rfl) [0] (rfl) rfl (trivial)
end Go.Proofs.YthfbmkfbmmjchaaDoor
