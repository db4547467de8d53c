/- What these functions of the program hand back, each proved by walking its operations. -/
import Derived.Test.YtepahnikcojepaaProg
import Derived.Test.YtepahnikcojepaaFw
import Derived.Test.YtepahnikcojepaaGG
import Derived.Test.YtepahnikcojepaaGT0
set_option linter.unusedVariables false
set_option linter.unusedSimpArgs false
set_option maxRecDepth 4000
namespace Go.Proofs.Ytepahnikcojepaa
open Go Go.Sx Go.RowKit Go.W Go.Proofs
attribute [local irreducible] Ex ExL ExD Op1 Free RetQ MutQ Reads CellO SegO LoadsAs
theorem e_17 : Enters Try.prog 17 := Enters.of Try.func17 rfl
theorem c_sTotalsFrom (s : List Int) (hu : Nums 255 s) (As : Option Addr) (cs : Nat) (hls : s.length ≤ maxLen) (l : List VP) (Al : Option Addr) (cl : Nat) (hll : l.length ≤ maxLen) : Ret Try.prog 17 [.slice As s.length cs, .slice Al l.length cl] (fun w => Rd w As (s.flatMap (eI .u8)) ∧ Rd w Al (l.flatMap encP)) (fun x : Option Addr × Nat => .tuple #[.slice x.1 (totF s l).1.length x.2, .int .i64 (totF s l).2]) (fun x => [.row (.slice x.1 ((totF s l).1).length x.2) 79 2 ((totF s l).1).length (((totF s l).1).flatMap encP)]) (fun x => True) := by
  refine Ret.of e_17 Try.func17 rfl Try.ntmps17 rfl rfl (fun w hpre => ?_)
  have hs := hpre.1.base
  have hl := hpre.2.base
  have hm0 : maxLen = 9223372036854775807 := rfl
  refine Ex.regSeq (ExL.pures 2 rfl ?_)
  refine ExL.nil ?_
  refine Ex.seq ?_
  refine Ex.regSeq (ExL.pures 2 rfl ?_)
  refine ExL.op rfl (op_ret rfl rfl rfl (c_l04Ok s (by assumption) _ _ (by omega) l _ _ (by omega)) (fun w hw => ⟨Reads.get (Reads.old hs) w hw, Reads.get (Reads.old hl) w hw⟩) rfl rfl (fun x1 hx1 => ?_))
  refine ExL.pures 1 rfl ?_
  refine ExL.nil ?_
  refine Ex.cond rfl (fun hb2 => ?_) (fun hb2 => ?_)
  · replace hb2 := nb_t hb2
    refine Ex.regSeq (ExL.pures 0 rfl ?_)
    refine ExL.op rfl (op_buildSlice (sz := 2) rfl rfl rfl rfl rfl rfl rfl rfl (by decide) rfl rfl rfl (fun r3 => ?_))
    refine ExL.pures 2 rfl ?_
    refine ExL.nil ?_
    refine Ex.ret ?_
    refine RetQ.mk ((some ⟨r3, 0, none⟩), 0) rfl (.tmp rfl (.tmp rfl .nil)) (t2 (by first | (rw [tf_1 (by assumption)]; first | done | rfl) | (rw [tf_3 hvl hkl hall (by first | (rw [cnt_z (by omega)]; omega) | (rw [cnt_p (by omega)]; omega))]; first | done | rfl) | (rw [tf_0 hvl hkn hall]; first | done | rfl)) (by first | (rw [tf_1 (by assumption)]; first | done | rfl) | (rw [tf_3 hvl hkl hall (by first | (rw [cnt_z (by omega)]; omega) | (rw [cnt_p (by omega)]; omega))]; first | done | rfl) | (rw [tf_0 hvl hkn hall]; first | done | rfl))) [0] (by first | (rw [tf_1 (by assumption)]; first | done | rfl) | (rw [tf_3 hvl hkl hall (by first | (rw [cnt_z (by omega)]; omega) | (rw [cnt_p (by omega)]; omega))]; first | done | rfl) | (rw [tf_0 hvl hkn hall]; first | done | rfl)) rfl (trivial)
  · replace hb2 := nb_f hb2
    refine Ex.skip ?_
    have hvl : validLog s l = true := by assumption
    have hL := log hvl
    have hLl := hL.len
    have hS := stk hL.stk
    have hS1 := hS.le
    have hS2 := hS.size_
    have hS3 := hS.pos
    refine Ex.regSeq (ExL.pures 1 rfl ?_)
    refine ExL.op rfl (op_ret rfl rfl rfl (c_l01Size _ (by assumption) _ _ (by first | assumption | omega | (unfold maxLen; omega))) (Reads.get (Reads.old hs)) rfl rfl (fun x4 hx4 => ?_))
    refine ExL.pures 1 rfl ?_
    refine ExL.nil ?_
    refine Ex.regSeq (ExL.pures 0 rfl ?_)
    refine ExL.op rfl (op_buildSlice (sz := 2) rfl rfl rfl rfl rfl rfl rfl rfl (by decide) rfl rfl rfl (fun r5 => ?_))
    refine ExL.pures 1 rfl ?_
    refine ExL.nil ?_
    refine Ex.seq ?_
    refine Ex.regSeq (ExL.pures 1 rfl ?_)
    refine ExL.nil ?_
    refine Ex.block ?_
    refine Ex.loopA (fun k A c => [(7, .slice A (totL (size s) l k).length c), (8, .int .i64 k)]) (fun k A c => [.row (.slice A (totL (size s) l k).length c) 79 2 (totL (size s) l k).length ((totL (size s) l k).flatMap encP)]) (fun k => k ≤ l.length ∧ ∀ i, i < k → overF (size s) l i = false) (fun k => l.length - k) 0 ((some ⟨r5, 0, none⟩)) (0) [(1, _), (6, _)] [] 1 [0] ⟨rfl, rfl, trivial⟩ ⟨rfl, rfl, trivial⟩ (rfl) rfl ⟨Nat.zero_le _, fun i hi => by omega⟩ (fun k A c hI => ?_)
    have hI : k ≤ l.length ∧ ∀ i, i < k → overF (size s) l i = false := hI
    obtain ⟨hk, hall⟩ := hI
    have htl := totL_len (size s) l k
    refine Ex.seq ?_
    refine Ex.regSeq (ExL.pures 3 rfl ?_)
    refine ExL.lss rfl rfl rfl rfl rfl rfl (fun h6 => ?_) (fun h6 => ?_)
    · refine ExL.nil ?_
      refine Ex.cond_t rfl ?_
      refine Ex.skip ?_
      refine Ex.seq ?_
      refine Ex.block ?_
      have hkl : k < l.length := by omega
      have hv1 := hL.val k hkl
      have hd1 := hL.day k hkl
      have hvm : 0 < k → 0 ≤ (l.getD (k - 1) zP).b ∧ (l.getD (k - 1) zP).b ≤ size s - 1 := fun h => hL.val (k - 1) (by omega)
      have hq := cnt_q hL hkl hall
      have hz1 := Int.emod_nonneg ((l.getD k zP).b - (l.getD (k - 1) zP).b) (show size s ≠ 0 by omega)
      have hz2 := Int.emod_lt_of_pos ((l.getD k zP).b - (l.getD (k - 1) zP).b) (show 0 < size s by omega)
      refine Ex.regSeq (ExL.pures 2 rfl ?_)
      refine ExL.free (fr_indexAddrF (Reads.old hl) encP_len rfl rfl rfl rfl rfl rfl (by omega)) rfl rfl rfl ?_
      refine ExL.free (fr_fieldAddrF (i := (↑k : Int).toNat) (Reads.old hl) encP_len rfl rfl rfl (by omega) rfl rfl rfl rfl) rfl rfl rfl ?_
      refine ExL.free (fr_load rfl rfl rfl rfl (by first | exact cellN (Reads.old hl) encP_len zP 1 rfl (by omega) rfl | exact cellF (Reads.old hl) encP_len zP 1 rfl (by omega) rfl)) rfl rfl rfl ?_
      refine ExL.pures 1 rfl ?_
      refine ExL.nil ?_
      refine Ex.seq ?_
      refine Ex.regSeq (ExL.pures 1 rfl ?_)
      refine ExL.gtr rfl rfl rfl rfl rfl rfl (fun h7 => ?_) (fun h7 => ?_)
      · refine ExL.nil ?_
        refine Ex.cond_t rfl ?_
        refine Ex.drawM rfl ?_
        refine ExD.take (i := 0) rfl (by kernel_rfl) (pureVal_ok rfl) ((List.Sublist.refl _)) rfl rfl rfl ?_
        refine ExD.take (i := 1) rfl (by kernel_rfl) (pureVal_ok rfl) ((List.Sublist.refl _)) rfl rfl rfl ?_
        refine ExD.take (i := 2) rfl (by kernel_rfl) (by first | exact fr_sub64 rfl rfl rfl (by omega) | exact fr_sub rfl rfl rfl) ((List.Sublist.refl _)) rfl rfl rfl ?_
        refine ExD.take (i := 3) rfl (by kernel_rfl) (fr_indexAddrR (sz := 2) 0 rfl rfl rfl rfl rfl rfl (by omega)) ((List.Sublist.refl _)) rfl rfl rfl ?_
        refine ExD.take (i := 4) rfl (by kernel_rfl) (fr_fieldAddrR 0 rfl (by omega) rfl rfl rfl rfl rfl rfl) ((List.Sublist.refl _)) rfl rfl rfl ?_
        refine ExD.take (i := 5) rfl (by kernel_rfl) (fr_load rfl rfl rfl rfl (cellJ (i := (↑k - 1)) ((k - 1)) (Reads.row (i := 0) rfl) encP_len zP 1 rfl (by omega) (by omega) rfl)) ((List.Sublist.refl _)) rfl rfl rfl ?_
        refine ExD.take (i := 6) rfl (by kernel_rfl) (pureVal_ok rfl) ((List.Sublist.refl _)) rfl rfl rfl ?_
        refine ExD.take (i := 7) rfl (by kernel_rfl) (pureVal_ok rfl) ((List.Sublist.refl _)) rfl rfl rfl ?_
        refine ExD.take (i := 8) rfl (by kernel_rfl) (fr_indexAddrF (Reads.old hl) encP_len rfl rfl rfl rfl rfl rfl (by omega)) ((List.Sublist.refl _)) rfl rfl rfl ?_
        refine ExD.take (i := 9) rfl (by kernel_rfl) (fr_fieldAddrF (i := (↑k : Int).toNat) (Reads.old hl) encP_len rfl rfl rfl (by omega) rfl rfl rfl rfl) ((List.Sublist.refl _)) rfl rfl rfl ?_
        refine ExD.take (i := 10) rfl (by kernel_rfl) (fr_load rfl rfl rfl rfl (by first | exact cellN (Reads.old hl) encP_len zP 1 rfl (by omega) rfl | exact cellF (Reads.old hl) encP_len zP 1 rfl (by omega) rfl)) ((List.Sublist.refl _)) rfl rfl rfl ?_
        refine ExD.take (i := 11) rfl (by kernel_rfl) (pureVal_ok rfl) ((List.Sublist.refl _)) rfl rfl rfl ?_
        refine ExD.take (i := 12) rfl (by kernel_rfl) (pureVal_ok rfl) ((List.Sublist.refl _)) rfl rfl rfl ?_
        refine ExD.take (i := 13) rfl (by kernel_rfl) (by first | exact fr_sub64 rfl rfl rfl (by omega) | exact fr_sub rfl rfl rfl) ((List.Sublist.refl _)) rfl rfl rfl ?_
        refine ExD.take (i := 14) rfl (by kernel_rfl) (fr_indexAddrF (Reads.old hl) encP_len rfl rfl rfl rfl rfl rfl (by omega)) ((List.Sublist.refl _)) rfl rfl rfl ?_
        refine ExD.take (i := 15) rfl (by kernel_rfl) (fr_fieldAddrF (i := ((↑k - 1) : Int).toNat) (Reads.old hl) encP_len rfl rfl rfl (by omega) rfl rfl rfl rfl) ((List.Sublist.refl _)) rfl rfl rfl ?_
        refine ExD.take (i := 16) rfl (by kernel_rfl) (fr_load rfl rfl rfl rfl (cellJ (i := (↑k - 1)) ((k - 1)) (Reads.old hl) encP_len zP 1 rfl (by omega) (by omega) rfl)) ((List.Sublist.refl _)) rfl rfl rfl ?_
        refine ExD.take (i := 17) rfl (by kernel_rfl) (by first | exact fr_sub64 rfl rfl rfl (by omega) | exact fr_sub rfl rfl rfl) ((List.Sublist.refl _)) rfl rfl rfl ?_
        refine ExD.take (i := 18) rfl (by kernel_rfl) (pureVal_ok rfl) ((List.Sublist.refl _)) rfl rfl rfl ?_
        refine ExD.op (i := 19) rfl (by kernel_rfl) rfl (op_ret rfl rfl rfl (c_l04Mod _ _ (by omega) (by omega)) (fun _ _ => trivial) rfl rfl (fun x8 hx8 => ⟨(List.Sublist.refl _), ?_⟩))
        refine ExD.take (i := 20) rfl (by kernel_rfl) (by first | exact fr_add64 rfl rfl rfl (by omega) | exact fr_add rfl rfl rfl) ((List.Sublist.refl _)) rfl rfl rfl ?_
        refine ExD.take (i := 21) rfl (by kernel_rfl) (pureVal_ok rfl) ((List.Sublist.refl _)) rfl rfl rfl ?_
        refine ExD.done (by kernel_rfl) ?_
        refine Ex.seq ?_
        refine Ex.regSeq (ExL.pures 1 rfl ?_)
        refine ExL.gtr rfl rfl rfl rfl rfl rfl (fun h9 => ?_) (fun h9 => ?_)
        · refine ExL.nil ?_
          refine Ex.cond_t rfl ?_
          refine Ex.regSeq (ExL.pures 0 rfl ?_)
          refine ExL.op rfl (op_buildSlice (sz := 2) rfl rfl rfl rfl rfl rfl rfl rfl (by decide) rfl rfl rfl (fun r10 => ?_))
          refine ExL.pures 2 rfl ?_
          refine ExL.nil ?_
          refine Ex.ret ?_
          refine RetQ.mk ((some ⟨r10, 0, none⟩), 0) rfl (.tmp rfl (.tmp rfl .nil)) (t2 (by first | (rw [tf_1 (by assumption)]; first | done | rfl) | (rw [tf_3 hvl hkl hall (by first | (rw [cnt_z (by omega)]; omega) | (rw [cnt_p (by omega)]; omega))]; first | done | rfl) | (rw [tf_0 hvl hkn hall]; first | done | rfl)) (by first | (rw [tf_1 (by assumption)]; first | done | rfl) | (rw [tf_3 hvl hkl hall (by first | (rw [cnt_z (by omega)]; omega) | (rw [cnt_p (by omega)]; omega))]; first | done | rfl) | (rw [tf_0 hvl hkn hall]; first | done | rfl))) [0] (by first | (rw [tf_1 (by assumption)]; first | done | rfl) | (rw [tf_3 hvl hkl hall (by first | (rw [cnt_z (by omega)]; omega) | (rw [cnt_p (by omega)]; omega))]; first | done | rfl) | (rw [tf_0 hvl hkn hall]; first | done | rfl)) rfl (trivial)
        · refine ExL.nil ?_
          refine Ex.cond_f rfl ?_
          refine Ex.skip ?_
          refine Ex.region (ExL.pures 3 rfl ?_)
          refine ExL.free (fr_indexAddrF (Reads.old hl) encP_len rfl rfl rfl rfl rfl rfl (by omega)) rfl rfl rfl ?_
          refine ExL.free (fr_fieldAddrF (i := (↑k : Int).toNat) (Reads.old hl) encP_len rfl rfl rfl (by omega) rfl rfl rfl rfl) rfl rfl rfl ?_
          refine ExL.free (fr_load rfl rfl rfl rfl (by first | exact cellN (Reads.old hl) encP_len zP 0 rfl (by omega) rfl | exact cellF (Reads.old hl) encP_len zP 0 rfl (by omega) rfl)) rfl rfl rfl ?_
          refine ExL.pures 1 rfl ?_
          refine ExL.free (fr_build rfl rfl rfl rfl) rfl rfl rfl ?_
          refine ExL.op rfl (op_buildSlice (sz := 2) rfl rfl rfl rfl rfl rfl rfl rfl (by decide) rfl rfl rfl (fun r11 => ?_))
          refine ExL.op rfl (op_append (sz := 2) (bytes := 16) (i := 1) rfl rfl rfl rfl (Reads.row (i := 0) rfl) rfl (fun e => nomatch e) rfl rfl rfl rfl (by constructor <;> first | omega | (unfold maxLen; omega)) rfl rfl (fun A12 cA12 => ?_))
          refine ExL.pures 1 rfl ?_
          refine ExL.nil ?_
          refine Ex.region (ExL.pures 1 rfl ?_)
          refine ExL.free (by first | exact fr_add64 rfl rfl rfl (by omega) | exact fr_add rfl rfl rfl) rfl rfl rfl ?_
          refine ExL.pures 1 rfl ?_
          refine ExL.nil ?_
          refine HandA.of (k + 1) (A12) (cA12) 2 [1] ⟨(by rw [totL, List.length_append]; rfl), rfl, trivial⟩ ⟨rfl, rfl, trivial⟩ (by first | (rw [totL, List.length_append, List.flatMap_append, cnt_z (by omega)]; rfl) | (rw [totL, List.length_append, List.flatMap_append, cnt_p (by omega)]; rfl)) rfl (⟨by omega, all_snoc hall (over_n (by first | (rw [cnt_z (by omega)]; omega) | (rw [cnt_p (by omega)]; omega)))⟩) (by omega)
      · refine ExL.nil ?_
        refine Ex.cond_f rfl ?_
        refine Ex.skip ?_
        refine Ex.seq ?_
        refine Ex.regSeq (ExL.pures 1 rfl ?_)
        refine ExL.gtr rfl rfl rfl rfl rfl rfl (fun h14 => ?_) (fun h14 => ?_)
        · refine ExL.nil ?_
          refine Ex.cond_t rfl ?_
          refine Ex.regSeq (ExL.pures 0 rfl ?_)
          refine ExL.op rfl (op_buildSlice (sz := 2) rfl rfl rfl rfl rfl rfl rfl rfl (by decide) rfl rfl rfl (fun r15 => ?_))
          refine ExL.pures 2 rfl ?_
          refine ExL.nil ?_
          refine Ex.ret ?_
          refine RetQ.mk ((some ⟨r15, 0, none⟩), 0) rfl (.tmp rfl (.tmp rfl .nil)) (t2 (by first | (rw [tf_1 (by assumption)]; first | done | rfl) | (rw [tf_3 hvl hkl hall (by first | (rw [cnt_z (by omega)]; omega) | (rw [cnt_p (by omega)]; omega))]; first | done | rfl) | (rw [tf_0 hvl hkn hall]; first | done | rfl)) (by first | (rw [tf_1 (by assumption)]; first | done | rfl) | (rw [tf_3 hvl hkl hall (by first | (rw [cnt_z (by omega)]; omega) | (rw [cnt_p (by omega)]; omega))]; first | done | rfl) | (rw [tf_0 hvl hkn hall]; first | done | rfl))) [0] (by first | (rw [tf_1 (by assumption)]; first | done | rfl) | (rw [tf_3 hvl hkl hall (by first | (rw [cnt_z (by omega)]; omega) | (rw [cnt_p (by omega)]; omega))]; first | done | rfl) | (rw [tf_0 hvl hkn hall]; first | done | rfl)) rfl (trivial)
        · refine ExL.nil ?_
          refine Ex.cond_f rfl ?_
          refine Ex.skip ?_
          refine Ex.region (ExL.pures 3 rfl ?_)
          refine ExL.free (fr_indexAddrF (Reads.old hl) encP_len rfl rfl rfl rfl rfl rfl (by omega)) rfl rfl rfl ?_
          refine ExL.free (fr_fieldAddrF (i := (↑k : Int).toNat) (Reads.old hl) encP_len rfl rfl rfl (by omega) rfl rfl rfl rfl) rfl rfl rfl ?_
          refine ExL.free (fr_load rfl rfl rfl rfl (by first | exact cellN (Reads.old hl) encP_len zP 0 rfl (by omega) rfl | exact cellF (Reads.old hl) encP_len zP 0 rfl (by omega) rfl)) rfl rfl rfl ?_
          refine ExL.pures 1 rfl ?_
          refine ExL.free (fr_build rfl rfl rfl rfl) rfl rfl rfl ?_
          refine ExL.op rfl (op_buildSlice (sz := 2) rfl rfl rfl rfl rfl rfl rfl rfl (by decide) rfl rfl rfl (fun r16 => ?_))
          refine ExL.op rfl (op_append (sz := 2) (bytes := 16) (i := 1) rfl rfl rfl rfl (Reads.row (i := 0) rfl) rfl (fun e => nomatch e) rfl rfl rfl rfl (by constructor <;> first | omega | (unfold maxLen; omega)) rfl rfl (fun A17 cA17 => ?_))
          refine ExL.pures 1 rfl ?_
          refine ExL.nil ?_
          refine Ex.region (ExL.pures 1 rfl ?_)
          refine ExL.free (by first | exact fr_add64 rfl rfl rfl (by omega) | exact fr_add rfl rfl rfl) rfl rfl rfl ?_
          refine ExL.pures 1 rfl ?_
          refine ExL.nil ?_
          refine HandA.of (k + 1) (A17) (cA17) 2 [1] ⟨(by rw [totL, List.length_append]; rfl), rfl, trivial⟩ ⟨rfl, rfl, trivial⟩ (by first | (rw [totL, List.length_append, List.flatMap_append, cnt_z (by omega)]; rfl) | (rw [totL, List.length_append, List.flatMap_append, cnt_p (by omega)]; rfl)) rfl (⟨by omega, all_snoc hall (over_n (by first | (rw [cnt_z (by omega)]; omega) | (rw [cnt_p (by omega)]; omega)))⟩) (by omega)
    · refine ExL.nil ?_
      refine Ex.cond_f rfl ?_
      refine Ex.exit ?_
      have hkn : k = l.length := by omega
      refine Ex.regSeq (ExL.pures 3 rfl ?_)
      refine ExL.nil ?_
      refine Ex.ret ?_
      refine RetQ.mk (A, c) rfl (.tmp rfl (.tmp rfl .nil)) (t2 (by first | (rw [tf_1 (by assumption)]; first | done | rfl) | (rw [tf_3 hvl hkl hall (by first | (rw [cnt_z (by omega)]; omega) | (rw [cnt_p (by omega)]; omega))]; first | done | rfl) | (rw [tf_0 hvl hkn hall]; first | done | rfl)) (by first | (rw [tf_1 (by assumption)]; first | done | rfl) | (rw [tf_3 hvl hkl hall (by first | (rw [cnt_z (by omega)]; omega) | (rw [cnt_p (by omega)]; omega))]; first | done | rfl) | (rw [tf_0 hvl hkn hall]; first | done | rfl))) [0] (by first | (rw [tf_1 (by assumption)]; first | done | rfl) | (rw [tf_3 hvl hkl hall (by first | (rw [cnt_z (by omega)]; omega) | (rw [cnt_p (by omega)]; omega))]; first | done | rfl) | (rw [tf_0 hvl hkn hall]; first | done | rfl)) rfl (trivial)
theorem e_20 : Enters Try.prog 20 := Enters.of Try.func20 rfl
theorem c_iTotalsFrom (s : List Int) (hu : Nums 255 s) (As : Option Addr) (cs : Nat) (hls : s.length ≤ maxLen) (l : List VP) (Al : Option Addr) (cl : Nat) (hll : l.length ≤ maxLen) : Ret Try.prog 20 [.slice As s.length cs, .slice Al l.length cl] (fun w => Rd w As (s.flatMap (eI .u8)) ∧ Rd w Al (l.flatMap encP)) (fun x : Option Addr × Nat => .tuple #[.slice x.1 (totF s l).1.length x.2, .int .i64 (totF s l).2]) (fun x => [.row (.slice x.1 ((totF s l).1).length x.2) 79 2 ((totF s l).1).length (((totF s l).1).flatMap encP)]) (fun x => True) := by
  refine Ret.of e_20 Try.func20 rfl Try.ntmps20 rfl rfl (fun w hpre => ?_)
  have hs := hpre.1.base
  have hl := hpre.2.base
  have hm0 : maxLen = 9223372036854775807 := rfl
  refine Ex.regSeq (ExL.pures 2 rfl ?_)
  refine ExL.nil ?_
  refine Ex.seq ?_
  refine Ex.regSeq (ExL.pures 2 rfl ?_)
  refine ExL.op rfl (op_ret rfl rfl rfl (c_ValidLog s (by assumption) _ _ (by omega) l _ _ (by omega)) (fun w hw => ⟨Reads.get (Reads.old hs) w hw, Reads.get (Reads.old hl) w hw⟩) rfl rfl (fun x1 hx1 => ?_))
  refine ExL.pures 1 rfl ?_
  refine ExL.nil ?_
  refine Ex.cond rfl (fun hb2 => ?_) (fun hb2 => ?_)
  · replace hb2 := nb_t hb2
    refine Ex.regSeq (ExL.pures 2 rfl ?_)
    refine ExL.nil ?_
    refine Ex.nilRow 79 2 ?_
    refine Ex.ret ?_
    refine RetQ.mk (none, 0) rfl (.tmp rfl (.tmp rfl .nil)) (t2 (by first | (rw [tf_1 (by assumption)]; first | done | rfl) | (rw [tf_3 hvl hkl hall (by first | (rw [cnt_z (by omega)]; omega) | (rw [cnt_p (by omega)]; omega))]; first | done | rfl) | (rw [tf_0 hvl hkn hall]; first | done | rfl)) (by first | (rw [tf_1 (by assumption)]; first | done | rfl) | (rw [tf_3 hvl hkl hall (by first | (rw [cnt_z (by omega)]; omega) | (rw [cnt_p (by omega)]; omega))]; first | done | rfl) | (rw [tf_0 hvl hkn hall]; first | done | rfl))) [0] (by first | (rw [tf_1 (by assumption)]; first | done | rfl) | (rw [tf_3 hvl hkl hall (by first | (rw [cnt_z (by omega)]; omega) | (rw [cnt_p (by omega)]; omega))]; first | done | rfl) | (rw [tf_0 hvl hkn hall]; first | done | rfl)) rfl (trivial)
  · replace hb2 := nb_f hb2
    refine Ex.skip ?_
    have hvl : validLog s l = true := by assumption
    have hL := log hvl
    have hLl := hL.len
    have hS := stk hL.stk
    have hS1 := hS.le
    have hS2 := hS.size_
    have hS3 := hS.pos
    refine Ex.regSeq (ExL.pures 0 rfl ?_)
    refine ExL.op rfl (op_buildSlice (sz := 2) rfl rfl rfl rfl rfl rfl rfl rfl (by decide) rfl rfl rfl (fun r3 => ?_))
    refine ExL.pures 1 rfl ?_
    refine ExL.nil ?_
    refine Ex.seq ?_
    refine Ex.regSeq (ExL.pures 3 rfl ?_)
    refine ExL.nil ?_
    refine Ex.block ?_
    refine Ex.loopA (fun k A c => [(6, .slice A (totL (size s) l k).length c), (19, .int .i64 k)]) (fun k A c => [.row (.slice A (totL (size s) l k).length c) 79 2 (totL (size s) l k).length ((totL (size s) l k).flatMap encP)]) (fun k => k ≤ l.length ∧ ∀ i, i < k → overF (size s) l i = false) (fun k => l.length - k) 0 ((some ⟨r3, 0, none⟩)) (0) [(0, _), (1, _), (17, _), (18, _)] [] 1 [0] ⟨rfl, rfl, trivial⟩ ⟨rfl, rfl, rfl, rfl, trivial⟩ (rfl) rfl ⟨Nat.zero_le _, fun i hi => by omega⟩ (fun k A c hI => ?_)
    have hI : k ≤ l.length ∧ ∀ i, i < k → overF (size s) l i = false := hI
    obtain ⟨hk, hall⟩ := hI
    have htl := totL_len (size s) l k
    refine Ex.regSeq (ExL.pures 0 rfl ?_)
    refine ExL.lss rfl rfl rfl rfl rfl rfl (fun h4 => ?_) (fun h4 => ?_)
    · refine ExL.nil ?_
      refine Ex.seq ?_
      refine Ex.cond_t rfl ?_
      refine Ex.skip ?_
      refine Ex.seq ?_
      refine Ex.block ?_
      have hkl : k < l.length := by omega
      have hv1 := hL.val k hkl
      have hd1 := hL.day k hkl
      have hvm : 0 < k → 0 ≤ (l.getD (k - 1) zP).b ∧ (l.getD (k - 1) zP).b ≤ size s - 1 := fun h => hL.val (k - 1) (by omega)
      have hq := cnt_q hL hkl hall
      have hz1 := Int.emod_nonneg ((l.getD k zP).b - (l.getD (k - 1) zP).b) (show size s ≠ 0 by omega)
      have hz2 := Int.emod_lt_of_pos ((l.getD k zP).b - (l.getD (k - 1) zP).b) (show 0 < size s by omega)
      refine Ex.regSeq (ExL.pures 1 rfl ?_)
      refine ExL.free (fr_indexAddrF (Reads.old hl) encP_len rfl rfl rfl rfl rfl rfl (by omega)) rfl rfl rfl ?_
      refine ExL.free (fr_loadN rfl rfl rfl rfl rfl (by first | exact segN (Reads.old hl) encP_len rfl zP (by omega) | exact segF (Reads.old hl) encP_len rfl zP (by omega))) rfl rfl rfl ?_
      refine ExL.op rfl (op_alloc rfl rfl rfl rfl rfl (fun b5 => ?_))
      refine ExL.pures 1 rfl ?_
      refine ExL.op rfl (op_storeC (i := 0) rfl rfl rfl rfl rfl rfl rfl rfl rfl rfl ?_)
      refine ExL.nil ?_
      refine Ex.regSeq (ExL.pures 1 rfl ?_)
      refine ExL.free (fr_load rfl rfl rfl rfl (CellO.blk (i := 0) rfl rfl)) rfl rfl rfl ?_
      refine ExL.pures 1 rfl ?_
      refine ExL.nil ?_
      refine Ex.seq ?_
      refine Ex.regSeq (ExL.pures 1 rfl ?_)
      refine ExL.gtr rfl rfl rfl rfl rfl rfl (fun h6 => ?_) (fun h6 => ?_)
      · refine ExL.nil ?_
        refine Ex.cond_t rfl ?_
        refine Ex.drawSeqM rfl ?_
        refine ExD.take (i := 0) rfl (by kernel_rfl) (pureVal_ok rfl) ((List.Sublist.refl _)) rfl rfl rfl ?_
        refine ExD.take (i := 1) rfl (by kernel_rfl) (fr_load rfl rfl rfl rfl (CellO.blk (i := 0) rfl rfl)) ((List.Sublist.refl _)) rfl rfl rfl ?_
        refine ExD.take (i := 2) rfl (by kernel_rfl) (pureVal_ok rfl) ((List.Sublist.refl _)) rfl rfl rfl ?_
        refine ExD.take (i := 3) rfl (by kernel_rfl) (pureVal_ok rfl) ((List.Sublist.refl _)) rfl rfl rfl ?_
        refine ExD.take (i := 4) rfl (by kernel_rfl) (by first | exact fr_sub64 rfl rfl rfl (by omega) | exact fr_sub rfl rfl rfl) ((List.Sublist.refl _)) rfl rfl rfl ?_
        refine ExD.take (i := 5) rfl (by kernel_rfl) (fr_indexAddrF (Reads.old hl) encP_len rfl rfl rfl rfl rfl rfl (by omega)) ((List.Sublist.refl _)) rfl rfl rfl ?_
        refine ExD.take (i := 6) rfl (by kernel_rfl) (fr_fieldAddrF (i := ((↑k - 1) : Int).toNat) (Reads.old hl) encP_len rfl rfl rfl (by omega) rfl rfl rfl rfl) ((List.Sublist.refl _)) rfl rfl rfl ?_
        refine ExD.take (i := 7) rfl (by kernel_rfl) (fr_load rfl rfl rfl rfl (cellJ (i := (↑k - 1)) ((k - 1)) (Reads.old hl) encP_len zP 1 rfl (by omega) (by omega) rfl)) ((List.Sublist.refl _)) rfl rfl rfl ?_
        refine ExD.take (i := 8) rfl (by kernel_rfl) (by first | exact fr_sub64 rfl rfl rfl (by omega) | exact fr_sub rfl rfl rfl) ((List.Sublist.refl _)) rfl rfl rfl ?_
        refine ExD.take (i := 9) rfl (by kernel_rfl) (pureVal_ok rfl) ((List.Sublist.refl _)) rfl rfl rfl ?_
        refine ExD.op (i := 10) rfl (by kernel_rfl) rfl (op_ret rfl rfl rfl (c_size _ (by assumption) _ _ (by first | assumption | omega | (unfold maxLen; omega))) (Reads.get (Reads.old hs)) rfl rfl (fun x7 hx7 => ⟨(List.Sublist.refl _), ?_⟩))
        refine ExD.op (i := 11) rfl (by kernel_rfl) rfl (op_ret rfl rfl rfl (c_wrapped _ _ (by omega) (by omega)) (fun _ _ => trivial) rfl rfl (fun x8 hx8 => ⟨(List.Sublist.refl _), ?_⟩))
        refine ExD.take (i := 12) rfl (by kernel_rfl) (pureVal_ok rfl) ((List.Sublist.refl _)) rfl rfl rfl ?_
        refine ExD.take (i := 13) rfl (by kernel_rfl) (pureVal_ok rfl) ((List.Sublist.refl _)) rfl rfl rfl ?_
        refine ExD.take (i := 14) rfl (by kernel_rfl) (pureVal_ok rfl) ((List.Sublist.refl _)) rfl rfl rfl ?_
        refine ExD.take (i := 15) rfl (by kernel_rfl) (pureVal_ok rfl) ((List.Sublist.refl _)) rfl rfl rfl ?_
        refine ExD.take (i := 16) rfl (by kernel_rfl) (pureVal_ok rfl) ((List.Sublist.refl _)) rfl rfl rfl ?_
        refine ExD.done (by kernel_rfl) ?_
        refine Ex.region (ExL.pures 2 rfl ?_)
        refine ExL.free (by first | exact fr_sub64 rfl rfl rfl (by omega) | exact fr_sub rfl rfl rfl) rfl rfl rfl ?_
        refine ExL.free (fr_indexAddrR (sz := 2) 1 rfl rfl rfl rfl rfl rfl (by omega)) rfl rfl rfl ?_
        refine ExL.free (fr_fieldAddrR 1 rfl (by omega) rfl rfl rfl rfl rfl rfl) rfl rfl rfl ?_
        refine ExL.free (fr_load rfl rfl rfl rfl (cellJ (i := (↑k - 1)) ((k - 1)) (Reads.row (i := 1) rfl) encP_len zP 1 rfl (by omega) (by omega) rfl)) rfl rfl rfl ?_
        refine ExL.pures 1 rfl ?_
        refine ExL.free (by first | exact fr_add64 rfl rfl rfl (by omega) | exact fr_add rfl rfl rfl) rfl rfl rfl ?_
        refine ExL.pures 1 rfl ?_
        refine ExL.nil ?_
        refine Ex.seq ?_
        refine Ex.regSeq (ExL.pures 1 rfl ?_)
        refine ExL.gtr rfl rfl rfl rfl rfl rfl (fun h9 => ?_) (fun h9 => ?_)
        · refine ExL.nil ?_
          refine Ex.cond_t rfl ?_
          refine Ex.regSeq (ExL.pures 2 rfl ?_)
          refine ExL.nil ?_
          refine Ex.nilRow 79 2 ?_
          refine Ex.ret ?_
          refine RetQ.mk (none, 0) rfl (.tmp rfl (.tmp rfl .nil)) (t2 (by first | (rw [tf_1 (by assumption)]; first | done | rfl) | (rw [tf_3 hvl hkl hall (by first | (rw [cnt_z (by omega)]; omega) | (rw [cnt_p (by omega)]; omega))]; first | done | rfl) | (rw [tf_0 hvl hkn hall]; first | done | rfl)) (by first | (rw [tf_1 (by assumption)]; first | done | rfl) | (rw [tf_3 hvl hkl hall (by first | (rw [cnt_z (by omega)]; omega) | (rw [cnt_p (by omega)]; omega))]; first | done | rfl) | (rw [tf_0 hvl hkn hall]; first | done | rfl))) [0] (by first | (rw [tf_1 (by assumption)]; first | done | rfl) | (rw [tf_3 hvl hkl hall (by first | (rw [cnt_z (by omega)]; omega) | (rw [cnt_p (by omega)]; omega))]; first | done | rfl) | (rw [tf_0 hvl hkn hall]; first | done | rfl)) rfl (trivial)
        · refine ExL.nil ?_
          refine Ex.cond_f rfl ?_
          refine Ex.skip ?_
          refine Ex.region (ExL.pures 2 rfl ?_)
          refine ExL.free (fr_load rfl rfl rfl rfl (CellO.blk (i := 0) rfl rfl)) rfl rfl rfl ?_
          refine ExL.pures 1 rfl ?_
          refine ExL.free (fr_build rfl rfl rfl rfl) rfl rfl rfl ?_
          refine ExL.op rfl (op_buildSlice (sz := 2) rfl rfl rfl rfl rfl rfl rfl rfl (by decide) rfl rfl rfl (fun r10 => ?_))
          refine ExL.op rfl (op_append (sz := 2) (bytes := 16) (i := 2) rfl rfl rfl rfl (Reads.row (i := 0) rfl) rfl (fun e => nomatch e) rfl rfl rfl rfl (by constructor <;> first | omega | (unfold maxLen; omega)) rfl rfl (fun A11 cA11 => ?_))
          refine ExL.pures 1 rfl ?_
          refine ExL.nil ?_
          refine Ex.region (ExL.pures 0 rfl ?_)
          refine ExL.free (by first | exact fr_add64 rfl rfl rfl (by omega) | exact fr_add rfl rfl rfl) rfl rfl rfl ?_
          refine ExL.pures 1 rfl ?_
          refine ExL.nil ?_
          refine HandA.of (k + 1) (A11) (cA11) 3 [2] ⟨(by rw [totL, List.length_append]; rfl), rfl, trivial⟩ ⟨rfl, rfl, rfl, rfl, trivial⟩ (by first | (rw [totL, List.length_append, List.flatMap_append, cnt_z (by omega)]; rfl) | (rw [totL, List.length_append, List.flatMap_append, cnt_p (by omega)]; rfl)) rfl (⟨by omega, all_snoc hall (over_n (by first | (rw [cnt_z (by omega)]; omega) | (rw [cnt_p (by omega)]; omega)))⟩) (by omega)
      · refine ExL.nil ?_
        refine Ex.cond_f rfl ?_
        refine Ex.skip ?_
        refine Ex.seq ?_
        refine Ex.regSeq (ExL.pures 1 rfl ?_)
        refine ExL.gtr rfl rfl rfl rfl rfl rfl (fun h13 => ?_) (fun h13 => ?_)
        · refine ExL.nil ?_
          refine Ex.cond_t rfl ?_
          refine Ex.regSeq (ExL.pures 2 rfl ?_)
          refine ExL.nil ?_
          refine Ex.nilRow 79 2 ?_
          refine Ex.ret ?_
          refine RetQ.mk (none, 0) rfl (.tmp rfl (.tmp rfl .nil)) (t2 (by first | (rw [tf_1 (by assumption)]; first | done | rfl) | (rw [tf_3 hvl hkl hall (by first | (rw [cnt_z (by omega)]; omega) | (rw [cnt_p (by omega)]; omega))]; first | done | rfl) | (rw [tf_0 hvl hkn hall]; first | done | rfl)) (by first | (rw [tf_1 (by assumption)]; first | done | rfl) | (rw [tf_3 hvl hkl hall (by first | (rw [cnt_z (by omega)]; omega) | (rw [cnt_p (by omega)]; omega))]; first | done | rfl) | (rw [tf_0 hvl hkn hall]; first | done | rfl))) [0] (by first | (rw [tf_1 (by assumption)]; first | done | rfl) | (rw [tf_3 hvl hkl hall (by first | (rw [cnt_z (by omega)]; omega) | (rw [cnt_p (by omega)]; omega))]; first | done | rfl) | (rw [tf_0 hvl hkn hall]; first | done | rfl)) rfl (trivial)
        · refine ExL.nil ?_
          refine Ex.cond_f rfl ?_
          refine Ex.skip ?_
          refine Ex.region (ExL.pures 2 rfl ?_)
          refine ExL.free (fr_load rfl rfl rfl rfl (CellO.blk (i := 0) rfl rfl)) rfl rfl rfl ?_
          refine ExL.pures 1 rfl ?_
          refine ExL.free (fr_build rfl rfl rfl rfl) rfl rfl rfl ?_
          refine ExL.op rfl (op_buildSlice (sz := 2) rfl rfl rfl rfl rfl rfl rfl rfl (by decide) rfl rfl rfl (fun r14 => ?_))
          refine ExL.op rfl (op_append (sz := 2) (bytes := 16) (i := 2) rfl rfl rfl rfl (Reads.row (i := 0) rfl) rfl (fun e => nomatch e) rfl rfl rfl rfl (by constructor <;> first | omega | (unfold maxLen; omega)) rfl rfl (fun A15 cA15 => ?_))
          refine ExL.pures 1 rfl ?_
          refine ExL.nil ?_
          refine Ex.region (ExL.pures 0 rfl ?_)
          refine ExL.free (by first | exact fr_add64 rfl rfl rfl (by omega) | exact fr_add rfl rfl rfl) rfl rfl rfl ?_
          refine ExL.pures 1 rfl ?_
          refine ExL.nil ?_
          refine HandA.of (k + 1) (A15) (cA15) 3 [2] ⟨(by rw [totL, List.length_append]; rfl), rfl, trivial⟩ ⟨rfl, rfl, rfl, rfl, trivial⟩ (by first | (rw [totL, List.length_append, List.flatMap_append, cnt_z (by omega)]; rfl) | (rw [totL, List.length_append, List.flatMap_append, cnt_p (by omega)]; rfl)) rfl (⟨by omega, all_snoc hall (over_n (by first | (rw [cnt_z (by omega)]; omega) | (rw [cnt_p (by omega)]; omega)))⟩) (by omega)
    · refine ExL.nil ?_
      refine Ex.seq ?_
      refine Ex.cond_f rfl ?_
      refine Ex.exit ?_
      have hkn : k = l.length := by omega
      refine Ex.regSeq (ExL.pures 3 rfl ?_)
      refine ExL.nil ?_
      refine Ex.ret ?_
      refine RetQ.mk (A, c) rfl (.tmp rfl (.tmp rfl .nil)) (t2 (by first | (rw [tf_1 (by assumption)]; first | done | rfl) | (rw [tf_3 hvl hkl hall (by first | (rw [cnt_z (by omega)]; omega) | (rw [cnt_p (by omega)]; omega))]; first | done | rfl) | (rw [tf_0 hvl hkn hall]; first | done | rfl)) (by first | (rw [tf_1 (by assumption)]; first | done | rfl) | (rw [tf_3 hvl hkl hall (by first | (rw [cnt_z (by omega)]; omega) | (rw [cnt_p (by omega)]; omega))]; first | done | rfl) | (rw [tf_0 hvl hkn hall]; first | done | rfl))) [0] (by first | (rw [tf_1 (by assumption)]; first | done | rfl) | (rw [tf_3 hvl hkl hall (by first | (rw [cnt_z (by omega)]; omega) | (rw [cnt_p (by omega)]; omega))]; first | done | rfl) | (rw [tf_0 hvl hkn hall]; first | done | rfl)) rfl (trivial)
end Go.Proofs.Ytepahnikcojepaa
