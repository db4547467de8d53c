/- Several texts, one behind the other. -/
import Derived.Test.YtdgfalhfmboalaaGreatDoorProg
import Derived.Test.YtdgfalhfmboalaaGreatDoorXaa
import Derived.Test.YtdgfalhfmboalaaGreatDoorXab
import Derived.Test.YtdgfalhfmboalaaGreatDoorXba
import Derived.Test.YtdgfalhfmboalaaGreatDoorXbb
import Derived.Test.YtdgfalhfmboalaaGreatDoorXbc
/- What these functions of the program hand back, each proved by walking its operations. -/
set_option linter.unusedVariables false
set_option linter.unusedSimpArgs false
set_option maxRecDepth 4000
namespace Go.Proofs.YtdgfalhfmboalaaGreatDoor
open Go Go.Sx Go.RowKit Go.W Go.Proofs
attribute [local irreducible] Ex ExL ExD Op1 Free RetQ MutQ Reads CellO SegO LoadsAs
theorem e_3 : Enters Tryz.prog 3 := Enters.of Tryz.func3 rfl
set_option maxHeartbeats 2000000 in
theorem w_FnPhotos (s : List Int) (hus : Nums 255 s) (As : Option Addr) (cs : Nat) (hls : s.length ≤ maxLen) (t : List Int) (hut : Nums 255 t) (At : Option Addr) (ct : Nat) (hlt : t.length ≤ maxLen) : Ret Tryz.prog 3 [.slice As s.length cs, .slice At t.length ct] (fun w => (Rd w As (s.flatMap (eI .u8)) ∧ Rd w At (t.flatMap (eI .u8))) ∧ RdO 0 1 2 w ∧ TabO Tryz.prog w) (fun x : Unit => .bool true) (fun x => []) (fun x => True) := by
  refine Ret.of e_3 Tryz.func3 rfl Tryz.ntmps3 rfl rfl (fun w hpre => ?_)
  have hs := hpre.1.1.base
  have ht := hpre.1.2.base
  have hrd := hpre.2.1
  have htab := hpre.2.2
  have hm0 : maxLen = 9223372036854775807 := rfl
  refine Ex.regSeq (ExL.pures 1 rfl ?_)
  refine ExL.nil ?_
  refine Ex.seq ?_
  refine Ex.regSeq (ExL.pures 1 rfl ?_)
  refine ExL.op rfl (op_ret rfl rfl rfl (c_f6big s _ _ (by omega)) (fun _ _ => trivial) rfl rfl (fun x1 hx1 => ?_))
  refine ExL.pures 1 rfl ?_
  refine ExL.bool (d := 61) rfl (fun hb2 => ?_) (fun hb2 => ?_)
  · replace hb2 := of_decide_eq_true hb2
    refine ExL.pures 3 rfl ?_
    refine ExL.nil ?_
    refine Ex.cond_t rfl ?_
    refine Ex.regSeq (ExL.pures 1 rfl ?_)
    refine ExL.nil ?_
    refine Ex.ret ?_
    refine RetQ.mk () rfl (.tmp rfl .nil) (tB (by first | rfl | exact absurd rfl (by assumption) | exact absurd (hvp.symm.trans (by assumption)) (by decide) | exact absurd (hWh.symm.trans (by assumption)) (by decide))) [] (rfl) rfl (trivial)
  · replace hb2 := of_decide_eq_false hb2
    refine ExL.pures 1 rfl ?_
    refine ExL.op rfl (op_ret rfl rfl rfl (c_f6big t _ _ (by omega)) (fun _ _ => trivial) rfl rfl (fun x3 hx3 => ?_))
    refine ExL.pures 1 rfl ?_
    refine ExL.nil ?_
    refine Ex.cond rfl (fun hb4 => ?_) (fun hb4 => ?_)
    · replace hb4 := of_decide_eq_true hb4
      refine Ex.regSeq (ExL.pures 1 rfl ?_)
      refine ExL.nil ?_
      refine Ex.ret ?_
      refine RetQ.mk () rfl (.tmp rfl .nil) (tB (by first | rfl | exact absurd rfl (by assumption) | exact absurd (hvp.symm.trans (by assumption)) (by decide) | exact absurd (hWh.symm.trans (by assumption)) (by decide))) [] (rfl) rfl (trivial)
    · replace hb4 := of_decide_eq_false hb4
      refine Ex.skip ?_
      refine Ex.regSeq (ExL.pures 1 rfl ?_)
      refine ExL.op rfl (op_ret rfl rfl rfl (c_P6Stack s _ _ (by omega) (by assumption)) (Reads.get (Reads.old hs)) rfl rfl (fun x5 hx5 => ?_))
      have hSx5 := hx5
      have hux5 := hSx5.nums
      have hvx5 := hSx5.valid
      have hzx5 := hSx5.size
      have hlx5 := hSx5.2
      refine ExL.pures 1 rfl ?_
      refine ExL.nil ?_
      refine Ex.regSeq (ExL.pures 2 rfl ?_)
      refine ExL.op rfl (op_ret rfl rfl rfl (c_P6Value t _ _ (by omega) (by assumption) x5.2 (by assumption) (by assumption) _ _) (fun w hw => ⟨Reads.get (Reads.old ht) w hw, Reads.get (Reads.row (i := 0) rfl) w hw⟩) rfl rfl (fun x6 hx6 => ?_))
      refine ExL.pures 1 rfl ?_
      refine ExL.nil ?_
      refine Ex.know (row_cap' (i := 0) rfl) (fun hcap => ?_)
      have hvs := hvx5
      have hSk := stk hvs
      have hz1 := hzx5.1
      have hvr := hx6
      have h8 := hSk.len8
      have hl1 := hSk.len1
      refine Ex.regSeq (ExL.pures 3 rfl ?_)
      refine ExL.op rfl (op_ret rfl rfl rfl (c_P6Photo t _ _ (by omega) (by assumption) x5.2 (by first | assumption | exact valid2) _ _ (by first | assumption | exact nums2) x6 (by omega)) (fun w hw => ⟨Reads.get (Reads.old ht) w hw, Reads.get (Reads.row (i := 0) rfl) w hw⟩) rfl rfl (fun x7 hx7 => ?_))
      refine ExL.op rfl (op_alloc rfl rfl rfl rfl rfl (fun b8 => ?_))
      refine ExL.op rfl (op_storeC (i := 0) rfl rfl rfl rfl rfl rfl rfl rfl rfl rfl ?_)
      refine ExL.nil ?_
      refine Ex.regSeq (ExL.pures 3 rfl ?_)
      refine ExL.op rfl (op_ret rfl rfl rfl (c_P6Photo s _ _ (by omega) (by assumption) x5.2 (by first | assumption | exact valid2) _ _ (by first | assumption | exact nums2) x6 (by omega)) (fun w hw => ⟨Reads.get (Reads.old hs) w hw, Reads.get (Reads.row (i := 1) rfl) w hw⟩) rfl rfl (fun x9 hx9 => ?_))
      refine ExL.op rfl (op_alloc rfl rfl rfl rfl rfl (fun b10 => ?_))
      refine ExL.op rfl (op_storeC (i := 0) rfl rfl rfl rfl rfl rfl rfl rfl rfl rfl ?_)
      refine ExL.nil ?_
      obtain ⟨hop, hkp, hwp⟩ := id hx7
      have hvp : validPh x5.2 x7 = true := by unfold validPh; rw [hvs, hkp]; rfl
      have hPp := phOk hSk hop hkp
      obtain ⟨hoq, hkq, hwq⟩ := id hx9
      have hvq : validPh x5.2 x9 = true := by unfold validPh; rw [hvs, hkq]; rfl
      have hPq := phOk hSk hoq hkq
      have hcb := cho_le hPp hSk (i := x5.2.length) (Nat.le_refl _)
      have htx9 : (phTx x5.2 x7).length ≤ 22000 := by rw [phTx_t hvp]; exact phT_le hSk
      have hCl := cinl hop hvp hvr hwp
      have hc1 := hCl.bd1
      have hc2 := hCl.bd2
      have hdn : Nums 255 (dig (digs x5.2 x6)).l := by rw [dig_l (digs_len _ _)]; exact digs_num hSk.bases
      have hdo : validDig x5.2 (dig (digs x5.2 x6)).l = true := by rw [dig_l (digs_len _ _)]; exact digs_valid hSk
      have hDk := digOk h8 hdn hdo
      have hsh : shV x5.2 x7 (dig (digs x5.2 x6)) = (true, 0) := by rw [sh_0 hvp (by rw [hvs, hdo]; rfl), dig_l (digs_len _ _), hwp]
      have hPm := meet_ph hSk hop hoq hPp hPq hwp hwq
      have hom := mixP_ok and_ok hop hoq
      have hvm := ph_valid hSk hom hPm
      have hvm2 : validPh x5.2 (mixP mtM x7 x9) = true := by unfold validPh; rw [hvs, hvm]; rfl
      have hoj := mixP_ok or_ok hop hoq
      refine Ex.regSeq (ExL.pures 2 rfl ?_)
      refine ExL.op rfl (op_ret rfl rfl rfl (c_DigitsOf x5.2 (by first | assumption | exact valid2) (by first | assumption | exact nums2) _ _ x6 (by omega)) (Reads.get (Reads.row (i := 2) rfl)) rfl rfl (fun x11 hx11 => ?_))
      refine ExL.pures 3 rfl ?_
      refine ExL.op rfl (op_alloc rfl rfl rfl rfl rfl (fun b12 => ?_))
      refine ExL.op rfl (op_storeC (i := 0) rfl rfl rfl rfl rfl rfl rfl rfl rfl rfl ?_)
      refine ExL.pures 1 rfl ?_
      refine ExL.nil ?_
      refine Ex.regSeq (ExL.pures 2 rfl ?_)
      refine ExL.free (fr_loadN rfl rfl rfl rfl rfl (SegO.whole (i := 2) rfl)) rfl rfl rfl ?_
      refine ExL.op rfl (op_ret rfl rfl rfl (c_iPhotoText x5.2 (by assumption) _ _ (by omega) x7 (hx7.1)) (fun w hw => ⟨Reads.get (Reads.row (i := 3) rfl) w hw, TabO.keep htab hw⟩) rfl rfl (fun x13 hx13 => ?_))
      refine ExL.op rfl (op_ret rfl rfl rfl (c_iReadPhoto x5.2 (by assumption) _ _ (by omega) (phTx x5.2 x7) (by omega)) (fun w hw => ⟨Reads.get (Reads.row (i := 3) rfl) w hw, RdO.keep hrd hw, TabO.keep htab hw⟩) rfl rfl (fun x14 hx14 => ?_))
      refine ExL.pures 3 rfl ?_
      refine ExL.op rfl (op_alloc rfl rfl rfl rfl rfl (fun b15 => ?_))
      refine ExL.op rfl (op_storeC (i := 0) rfl rfl rfl rfl rfl rfl rfl rfl rfl rfl ?_)
      refine ExL.pures 1 rfl ?_
      refine ExL.nil ?_
      obtain ⟨hb1, hb2⟩ := rdPh_back hop hvp hx14
      rw [hb1, hb2]
      refine Ex.regSeq (ExL.pures 1 rfl ?_)
      refine ExL.free (fr_loadN rfl rfl rfl rfl rfl (SegO.whole (i := 3) rfl)) rfl rfl rfl ?_
      refine ExL.free (fr_loadN rfl rfl rfl rfl rfl (SegO.whole (i := 1) rfl)) rfl rfl rfl ?_
      refine ExL.op rfl (op_ret rfl rfl rfl (c_iShows x5.2 (by assumption) _ _ (by omega) x7 (hx7.1) (dig (digs x5.2 x6)) (by assumption)) (Reads.get (Reads.row (i := 4) rfl)) rfl rfl (fun x16 hx16 => ?_))
      refine ExL.pures 5 rfl ?_
      refine ExL.nil ?_
      rw [hsh]
      refine Ex.regSeq (ExL.pures 1 rfl ?_)
      refine ExL.free (fr_loadN rfl rfl rfl rfl rfl (SegO.whole (i := 3) rfl)) rfl rfl rfl ?_
      refine ExL.op rfl (op_ret rfl rfl rfl (c_iChoices x5.2 (by assumption) _ _ (by omega) x7 (hx7.1) (by assumption)) (Reads.get (Reads.row (i := 4) rfl)) rfl rfl (fun x17 hx17 => ?_))
      refine ExL.pures 5 rfl ?_
      refine ExL.nil ?_
      refine Ex.regSeq (ExL.pures 1 rfl ?_)
      refine ExL.free (fr_loadN rfl rfl rfl rfl rfl (SegO.whole (i := 3) rfl)) rfl rfl rfl ?_
      refine ExL.op rfl (op_ret rfl rfl rfl (c_sChoices x5.2 (by assumption) _ _ (by omega) x7 (hx7.1) (by assumption)) (Reads.get (Reads.row (i := 4) rfl)) rfl rfl (fun x18 hx18 => ?_))
      refine ExL.pures 5 rfl ?_
      refine ExL.nil ?_
      refine Ex.regSeq (ExL.pures 1 rfl ?_)
      refine ExL.op rfl (op_ret rfl rfl rfl (c_SizeOf x5.2 (by assumption) (by assumption) _ _) (Reads.get (Reads.row (i := 4) rfl)) rfl rfl (fun x19 hx19 => ?_))
      refine ExL.pures 5 rfl ?_
      refine ExL.nil ?_
      refine Ex.seq ?_
      refine Ex.regSeq (ExL.pures 1 rfl ?_)
      refine ExL.free (fr_neq_f rfl rfl rfl (fun h => h rfl)) rfl rfl rfl ?_
      refine ExL.pures 2 rfl ?_
      refine ExL.free (fr_neq_f rfl rfl rfl (fun h => h rfl)) rfl rfl rfl ?_
      refine ExL.pures 2 rfl ?_
      refine ExL.free (fr_loadN rfl rfl rfl rfl rfl (SegO.whole (i := 0) rfl)) rfl rfl rfl ?_
      refine ExL.free (fr_loadN rfl rfl rfl rfl rfl (SegO.whole (i := 3) rfl)) rfl rfl rfl ?_
      refine ExL.free (fr_neq_rec (eq_Photo x7) rfl rfl rfl (by kernel_rfl)) rfl rfl rfl ?_
      refine ExL.pures 3 rfl ?_
      refine ExL.free (fr_loadN rfl rfl rfl rfl rfl (SegO.whole (i := 3) rfl)) rfl rfl rfl ?_
      refine ExL.op rfl (op_ret rfl rfl rfl (c_iValidPhoto x5.2 (by assumption) _ _ (by omega) x7 (hx7.1)) (Reads.get (Reads.row (i := 4) rfl)) rfl rfl (fun x20 hx20 => ?_))
      refine ExL.pures 3 rfl ?_
      refine ExL.bool (d := 133) rfl (fun hb21 => ?_) (fun hb21 => ?_)
      · replace hb21 := nb_t hb21
        refine ExL.pures 25 rfl ?_
        refine ExL.nil ?_
        refine Ex.cond_t rfl ?_
        refine Ex.regSeq (ExL.pures 1 rfl ?_)
        refine ExL.nil ?_
        refine Ex.ret ?_
        refine RetQ.mk () rfl (.tmp rfl .nil) (tB (by first | rfl | exact absurd rfl (by assumption) | exact absurd (hvp.symm.trans (by assumption)) (by decide) | exact absurd (hWh.symm.trans (by assumption)) (by decide))) [] (rfl) rfl (trivial)
      · replace hb21 := nb_f hb21
        refine ExL.pures 1 rfl ?_
        refine ExL.free (fr_neq_f rfl rfl rfl (fun h => h rfl)) rfl rfl rfl ?_
        refine ExL.pures 8 rfl ?_
        refine ExL.free (fr_neq_f rfl rfl rfl (fun h => h rfl)) rfl rfl rfl ?_
        refine ExL.pures 3 rfl ?_
        refine ExL.free (fr_neq_f rfl rfl rfl (fun h => h rfl)) rfl rfl rfl ?_
        refine ExL.pures 4 rfl ?_
        refine ExL.free (fr_neq_f rfl rfl rfl (fun h => h rfl)) rfl rfl rfl ?_
        refine ExL.pures 3 rfl ?_
        refine ExL.free (fr_neq_f rfl rfl rfl (fun h => h rfl)) rfl rfl rfl ?_
        refine ExL.pures 1 rfl ?_
        refine ExL.nil ?_
        refine Ex.cond_f rfl ?_
        refine Ex.skip ?_
        refine Ex.regSeq (ExL.pures 1 rfl ?_)
        refine ExL.free (fr_loadN rfl rfl rfl rfl rfl (SegO.whole (i := 3) rfl)) rfl rfl rfl ?_
        refine ExL.pures 1 rfl ?_
        refine ExL.free (by first | exact fr_sub64 rfl rfl rfl (by omega) | exact fr_sub rfl rfl rfl) rfl rfl rfl ?_
        refine ExL.op rfl (op_ret rfl rfl rfl (c_iCountIn x5.2 (by assumption) _ _ (by omega) x7 (hx7.1) 0 ((size x5.2) - 1)) (Reads.get (Reads.row (i := 4) rfl)) rfl rfl (fun x22 hx22 => ?_))
        refine ExL.pures 5 rfl ?_
        refine ExL.nil ?_
        refine Ex.regSeq (ExL.pures 1 rfl ?_)
        refine ExL.free (fr_loadN rfl rfl rfl rfl rfl (SegO.whole (i := 3) rfl)) rfl rfl rfl ?_
        refine ExL.pures 1 rfl ?_
        refine ExL.op rfl (op_ret rfl rfl rfl (c_iCountIn x5.2 (by assumption) _ _ (by omega) x7 (hx7.1) 0 x6) (Reads.get (Reads.row (i := 4) rfl)) rfl rfl (fun x23 hx23 => ?_))
        refine ExL.pures 5 rfl ?_
        refine ExL.nil ?_
        refine Ex.regSeq (ExL.pures 1 rfl ?_)
        refine ExL.free (fr_loadN rfl rfl rfl rfl rfl (SegO.whole (i := 3) rfl)) rfl rfl rfl ?_
        refine ExL.pures 2 rfl ?_
        refine ExL.free (by first | exact fr_sub64 rfl rfl rfl (by omega) | exact fr_sub rfl rfl rfl) rfl rfl rfl ?_
        refine ExL.op rfl (op_ret rfl rfl rfl (c_iCountIn x5.2 (by assumption) _ _ (by omega) x7 (hx7.1) x6 ((size x5.2) - 1)) (Reads.get (Reads.row (i := 4) rfl)) rfl rfl (fun x24 hx24 => ?_))
        refine ExL.pures 5 rfl ?_
        refine ExL.nil ?_
        refine Ex.seq ?_
        refine Ex.regSeq (ExL.pures 1 rfl ?_)
        refine ExL.free (fr_neq_f rfl rfl rfl (by rw [hCl.all2]; exact fun h => h rfl)) rfl rfl rfl ?_
        refine ExL.pures 3 rfl ?_
        refine ExL.free (fr_neq_f rfl rfl rfl (by rw [hCl.all]; exact fun h => h rfl)) rfl rfl rfl ?_
        refine ExL.pures 3 rfl ?_
        refine ExL.free (fr_neq_f rfl rfl rfl (by rw [hCl.lo]; exact fun h => h rfl)) rfl rfl rfl ?_
        refine ExL.pures 3 rfl ?_
        refine ExL.free (fr_neq_f rfl rfl rfl (by rw [hCl.hi]; exact fun h => h rfl)) rfl rfl rfl ?_
        refine ExL.pures 4 rfl ?_
        refine ExL.free (by first | exact fr_add64 rfl rfl rfl (by omega) | exact fr_add rfl rfl rfl) rfl rfl rfl ?_
        refine ExL.pures 1 rfl ?_
        refine ExL.free (by first | exact fr_add64 rfl rfl rfl (by omega) | exact fr_add rfl rfl rfl) rfl rfl rfl ?_
        refine ExL.free (fr_neq_f rfl rfl rfl (by have := hCl.sum; omega)) rfl rfl rfl ?_
        refine ExL.pures 1 rfl ?_
        refine ExL.nil ?_
        refine Ex.cond_f rfl ?_
        refine Ex.skip ?_
        refine Ex.regSeq (ExL.pures 1 rfl ?_)
        refine ExL.free (fr_loadN rfl rfl rfl rfl rfl (SegO.whole (i := 3) rfl)) rfl rfl rfl ?_
        refine ExL.op rfl (op_ret rfl rfl rfl (c_iValuesIn x5.2 (by assumption) _ _ (by omega) x7 (hx7.1)) (Reads.get (Reads.row (i := 4) rfl)) rfl rfl (fun x25 hx25 => ?_))
        refine ExL.pures 5 rfl ?_
        refine ExL.nil ?_
        refine Ex.regSeq (ExL.pures 1 rfl ?_)
        refine ExL.free (fr_loadN rfl rfl rfl rfl rfl (SegO.whole (i := 4) rfl)) rfl rfl rfl ?_
        refine ExL.op rfl (op_ret rfl rfl rfl (c_sValuesIn x5.2 (by assumption) _ _ (by omega) x7 (hx7.1)) (Reads.get (Reads.row (i := 5) rfl)) rfl rfl (fun x26 hx26 => ?_))
        refine ExL.pures 5 rfl ?_
        refine ExL.nil ?_
        refine Ex.seq ?_
        have hvl9 := vi_len x5.2 x7
        refine Ex.regSeq (ExL.pures 2 rfl ?_)
        refine ExL.free (fr_neq_f rfl rfl rfl (fun h => h rfl)) rfl rfl rfl ?_
        refine ExL.pures 3 rfl ?_
        refine ExL.op rfl (op_ret rfl rfl rfl (c_SameNumbers ((vinV x5.2 x7).1) _ _ (by omega) _ _) (fun w hw => ⟨Reads.get (Reads.row (i := 1) rfl) w hw, Reads.get (Reads.row (i := 0) rfl) w hw⟩) rfl rfl (fun x27 hx27 => ?_))
        refine ExL.pures 4 rfl ?_
        refine ExL.free (fr_eql rfl rfl rfl) rfl rfl rfl ?_
        refine ExL.pures 1 rfl ?_
        refine ExL.free (fr_leq rfl rfl rfl) rfl rfl rfl ?_
        refine ExL.free (fr_neq_bool_eq (vin_code hvp) rfl rfl rfl rfl) rfl rfl rfl ?_
        refine ExL.pures 1 rfl ?_
        refine ExL.nil ?_
        refine Ex.cond_f rfl ?_
        refine Ex.skip ?_
        refine Ex.regSeq (ExL.pures 1 rfl ?_)
        refine ExL.free (fr_loadN rfl rfl rfl rfl rfl (SegO.whole (i := 5) rfl)) rfl rfl rfl ?_
        refine ExL.op rfl (op_ret rfl rfl rfl (c_iLeastIn x5.2 (by assumption) _ _ (by omega) x7 (hx7.1) (by assumption)) (Reads.get (Reads.row (i := 6) rfl)) rfl rfl (fun x28 hx28 => ?_))
        refine ExL.pures 5 rfl ?_
        refine ExL.nil ?_
        refine Ex.seq ?_
        refine Ex.regSeq (ExL.pures 1 rfl ?_)
        refine ExL.nil ?_
        refine Ex.block ?_
        refine Ex.loopK (X := Nat) (fun k => [(31, .int .i64 (atL x5.2 x7 (vinV x5.2 x7).1 k).1), (32, .int .i64 (atL x5.2 x7 (vinV x5.2 x7).1 k).2), (33, .int .i64 k)]) (fun k => []) (fun k => k ≤ (vinV x5.2 x7).1.length) (fun k => (vinV x5.2 x7).1.length - k) 0 [(0, _), (5, _), (7, _), (8, _), (9, _), (19, _), (29, _)] [_, _, _, _, _] 7 [0, 3, 4, 5, 6] ⟨rfl, rfl, rfl, trivial⟩ ⟨rfl, rfl, rfl, rfl, rfl, rfl, rfl, trivial⟩ (rfl) rfl (Nat.zero_le _) (fun k hI => ?_)
        have hI : k ≤ (vinV x5.2 x7).1.length := hI
        refine Ex.seq ?_
        refine Ex.regSeq (ExL.pures 3 rfl ?_)
        refine ExL.lss rfl rfl rfl rfl rfl rfl (fun h29 => ?_) (fun h29 => ?_)
        · refine ExL.pures 2 rfl ?_
          refine ExL.lss rfl rfl rfl rfl rfl rfl (fun h30 => ?_) (fun h30 => ?_)
          · refine ExL.pures 1 rfl ?_
            refine ExL.nil ?_
            refine Ex.cond_t rfl ?_
            refine Ex.skip ?_
            refine Ex.seq ?_
            refine Ex.block ?_
            have hkl : k < (vinV x5.2 x7).1.length := by omega
            have hat := atl hop hvp hkl
            have hat1 := hat.bd
            refine Ex.seq ?_
            refine Ex.regSeq (ExL.pures 1 rfl ?_)
            refine ExL.free (fr_neq_f rfl rfl rfl (by rw [hat.code]; exact fun h => h rfl)) rfl rfl rfl ?_
            refine ExL.pures 4 rfl ?_
            refine ExL.free (fr_indexAddrR (sz := 1) 0 rfl rfl rfl rfl rfl rfl (by omega)) rfl rfl rfl ?_
            refine ExL.free (fr_load rfl rfl rfl rfl (by first | exact cellN (Reads.row (i := 0) rfl) (eI_len .i64) 0 0 rfl (by omega) rfl | exact cellF (Reads.row (i := 0) rfl) (eI_len .i64) 0 0 rfl (by omega) rfl)) rfl rfl rfl ?_
            refine ExL.free (fr_neq_f rfl rfl rfl (fun h9 => h9 hat.at_)) rfl rfl rfl ?_
            refine ExL.pures 1 rfl ?_
            refine ExL.nil ?_
            refine Ex.cond_f rfl ?_
            refine Ex.skip ?_
            refine Ex.seq ?_
            refine Ex.regSeq (ExL.pures 2 rfl ?_)
            refine ExL.free (fr_indexAddrR (sz := 1) 0 rfl rfl rfl rfl rfl rfl (by omega)) rfl rfl rfl ?_
            refine ExL.free (fr_load rfl rfl rfl rfl (by first | exact cellN (Reads.row (i := 0) rfl) (eI_len .i64) 0 0 rfl (by omega) rfl | exact cellF (Reads.row (i := 0) rfl) (eI_len .i64) 0 0 rfl (by omega) rfl)) rfl rfl rfl ?_
            refine ExL.pures 1 rfl ?_
            refine ExL.free (by first | exact fr_sub64 rfl rfl rfl (by omega) | exact fr_sub rfl rfl rfl) rfl rfl rfl ?_
            refine ExL.eql rfl rfl rfl rfl rfl rfl (fun h31 => ?_) (fun h31 => ?_)
            · refine ExL.nil ?_
              refine Ex.cond_t rfl ?_
              refine Ex.exit ?_
              refine Ex.regSeq (ExL.pures 1 rfl ?_)
              refine ExL.free (fr_loadN rfl rfl rfl rfl rfl (SegO.whole (i := 3) rfl)) rfl rfl rfl ?_
              refine ExL.free (fr_loadN rfl rfl rfl rfl rfl (SegO.whole (i := 2) rfl)) rfl rfl rfl ?_
              refine ExL.op rfl (op_ret rfl rfl rfl (c_iMeet x5.2 (by assumption) _ _ (by omega) x7 (hx7.1) x9 (hx9.1) (by assumption) (by assumption) (by assumption)) (Reads.get (Reads.row (i := 4) rfl)) rfl rfl (fun x32 hx32 => ?_))
              refine ExL.pures 3 rfl ?_
              refine ExL.op rfl (op_alloc rfl rfl rfl rfl rfl (fun b33 => ?_))
              refine ExL.op rfl (op_storeC (i := 0) rfl rfl rfl rfl rfl rfl rfl rfl rfl rfl ?_)
              refine ExL.pures 1 rfl ?_
              refine ExL.nil ?_
              refine Ex.regSeq (ExL.pures 1 rfl ?_)
              refine ExL.free (fr_loadN rfl rfl rfl rfl rfl (SegO.whole (i := 4) rfl)) rfl rfl rfl ?_
              refine ExL.free (fr_loadN rfl rfl rfl rfl rfl (SegO.whole (i := 3) rfl)) rfl rfl rfl ?_
              refine ExL.op rfl (op_ret rfl rfl rfl (c_iJoin x5.2 (by assumption) _ _ (by omega) x7 (hx7.1) x9 (hx9.1) (by assumption) (by assumption)) (Reads.get (Reads.row (i := 5) rfl)) rfl rfl (fun x34 hx34 => ?_))
              refine ExL.pures 3 rfl ?_
              refine ExL.op rfl (op_alloc rfl rfl rfl rfl rfl (fun b35 => ?_))
              refine ExL.op rfl (op_storeC (i := 0) rfl rfl rfl rfl rfl rfl rfl rfl rfl rfl ?_)
              refine ExL.pures 1 rfl ?_
              refine ExL.nil ?_
              refine Ex.regSeq (ExL.pures 1 rfl ?_)
              refine ExL.free (fr_loadN rfl rfl rfl rfl rfl (SegO.whole (i := 5) rfl)) rfl rfl rfl ?_
              refine ExL.free (fr_loadN rfl rfl rfl rfl rfl (SegO.whole (i := 4) rfl)) rfl rfl rfl ?_
              refine ExL.op rfl (op_ret rfl rfl rfl (c_sMeet x5.2 (by assumption) _ _ (by omega) x7 (hx7.1) x9 (hx9.1) (by assumption) (by assumption) (by assumption)) (Reads.get (Reads.row (i := 6) rfl)) rfl rfl (fun x36 hx36 => ?_))
              refine ExL.pures 3 rfl ?_
              refine ExL.op rfl (op_alloc rfl rfl rfl rfl rfl (fun b37 => ?_))
              refine ExL.op rfl (op_storeC (i := 0) rfl rfl rfl rfl rfl rfl rfl rfl rfl rfl ?_)
              refine ExL.pures 1 rfl ?_
              refine ExL.nil ?_
              refine Ex.regSeq (ExL.pures 1 rfl ?_)
              refine ExL.free (fr_loadN rfl rfl rfl rfl rfl (SegO.whole (i := 6) rfl)) rfl rfl rfl ?_
              refine ExL.free (fr_loadN rfl rfl rfl rfl rfl (SegO.whole (i := 5) rfl)) rfl rfl rfl ?_
              refine ExL.op rfl (op_ret rfl rfl rfl (c_sJoin x5.2 (by assumption) _ _ (by omega) x7 (hx7.1) x9 (hx9.1) (by assumption) (by assumption)) (Reads.get (Reads.row (i := 7) rfl)) rfl rfl (fun x38 hx38 => ?_))
              refine ExL.pures 3 rfl ?_
              refine ExL.op rfl (op_alloc rfl rfl rfl rfl rfl (fun b39 => ?_))
              refine ExL.op rfl (op_storeC (i := 0) rfl rfl rfl rfl rfl rfl rfl rfl rfl rfl ?_)
              refine ExL.pures 1 rfl ?_
              refine ExL.nil ?_
              refine Ex.seq ?_
              refine Ex.regSeq (ExL.pures 2 rfl ?_)
              refine ExL.free (fr_neq_f rfl rfl rfl (fun h => h rfl)) rfl rfl rfl ?_
              refine ExL.pures 2 rfl ?_
              refine ExL.free (fr_neq_f rfl rfl rfl (fun h => h rfl)) rfl rfl rfl ?_
              refine ExL.pures 2 rfl ?_
              refine ExL.free (fr_loadN rfl rfl rfl rfl rfl (SegO.whole (i := 3) rfl)) rfl rfl rfl ?_
              refine ExL.free (fr_loadN rfl rfl rfl rfl rfl (SegO.whole (i := 1) rfl)) rfl rfl rfl ?_
              refine ExL.free (fr_neq_rec (eq_Photo (mixP mtM x7 x9)) rfl rfl rfl (by kernel_rfl)) rfl rfl rfl ?_
              refine ExL.pures 4 rfl ?_
              refine ExL.free (fr_neq_f rfl rfl rfl (fun h => h rfl)) rfl rfl rfl ?_
              refine ExL.pures 3 rfl ?_
              refine ExL.free (fr_neq_f rfl rfl rfl (fun h => h rfl)) rfl rfl rfl ?_
              refine ExL.pures 2 rfl ?_
              refine ExL.free (fr_loadN rfl rfl rfl rfl rfl (SegO.whole (i := 2) rfl)) rfl rfl rfl ?_
              refine ExL.free (fr_loadN rfl rfl rfl rfl rfl (SegO.whole (i := 0) rfl)) rfl rfl rfl ?_
              refine ExL.free (fr_neq_rec (eq_Photo (mixP jnM x7 x9)) rfl rfl rfl (by kernel_rfl)) rfl rfl rfl ?_
              refine ExL.pures 1 rfl ?_
              refine ExL.nil ?_
              refine Ex.cond_f rfl ?_
              refine Ex.skip ?_
              refine Ex.seq ?_
              refine Ex.regSeq (ExL.pures 1 rfl ?_)
              refine ExL.nil ?_
              refine Ex.block ?_
              refine Ex.loopK (X := Nat) (fun wh => [(42, .int .i64 wh)]) (fun wh => []) (fun wh => wh ≤ x5.2.length) (fun wh => x5.2.length - wh) 0 [(0, _), (5, _), (7, _), (8, _), (9, _), (38, _), (40, _)] [_, _, _, _, _, _] 9 [0, 1, 5, 6, 7, 8] ⟨rfl, trivial⟩ ⟨rfl, rfl, rfl, rfl, rfl, rfl, rfl, trivial⟩ (rfl) rfl (Nat.zero_le _) (fun wh hI => ?_)
              have hI : wh ≤ x5.2.length := hI
              refine Ex.seq ?_
              refine Ex.regSeq (ExL.pures 3 rfl ?_)
              refine ExL.lss rfl rfl rfl rfl rfl rfl (fun h40 => ?_) (fun h40 => ?_)
              · refine ExL.nil ?_
                refine Ex.cond_t rfl ?_
                refine Ex.skip ?_
                refine Ex.seq ?_
                refine Ex.block ?_
                have hwl : wh < x5.2.length := by omega
                have hbw := hSk.bases wh hwl
                refine Ex.regSeq (ExL.pures 1 rfl ?_)
                refine ExL.nil ?_
                refine Ex.block ?_
                refine Ex.loopK (X := Nat) (fun k => [(43, .int .i64 k)]) (fun k => []) (fun k => (k : Int) ≤ x5.2.getD wh 0) (fun k => (x5.2.getD wh 0).toNat - k) 0 [(0, _), (5, _), (7, _), (8, _), (9, _), (38, _), (40, _), (42, _)] [_, _, _, _, _, _] 6 [0, 1, 2, 3, 4, 5] ⟨rfl, trivial⟩ ⟨rfl, rfl, rfl, rfl, rfl, rfl, rfl, rfl, trivial⟩ (rfl) rfl (by omega) (fun k hI => ?_)
                have hI : (k : Int) ≤ x5.2.getD wh 0 := hI
                refine Ex.seq ?_
                refine Ex.regSeq (ExL.pures 3 rfl ?_)
                refine ExL.free (fr_indexAddrR (sz := 1) 5 rfl rfl rfl rfl rfl rfl (by omega)) rfl rfl rfl ?_
                refine ExL.free (fr_load rfl rfl rfl rfl (by first | exact cellN (Reads.row (i := 5) rfl) (eI_len .u8) 0 0 rfl (by omega) rfl | exact cellF (Reads.row (i := 5) rfl) (eI_len .u8) 0 0 rfl (by omega) rfl)) rfl rfl rfl ?_
                refine ExL.free (by first | exact fr_conv64 rfl rfl rfl rfl (by omega) | exact fr_conv rfl rfl rfl rfl) rfl rfl rfl ?_
                refine ExL.lss rfl rfl rfl rfl rfl rfl (fun h41 => ?_) (fun h41 => ?_)
                · refine ExL.nil ?_
                  refine Ex.cond_t rfl ?_
                  refine Ex.skip ?_
                  refine Ex.seq ?_
                  refine Ex.block ?_
                  have hkb : k < 128 := by omega
                  have hwb : wh < 8 := by omega
                  have hm1 : hasM ((mixP mtM x7 x9).l.getD wh zMk) k = (hasM (x7.l.getD wh zMk) k && hasM (x9.l.getD wh zMk) k) := by rw [mixP_at hwb]; exact and_ok.has (hop wh hwb) (hoq wh hwb) hkb
                  have hm2 : hasM ((mixP jnM x7 x9).l.getD wh zMk) k = (hasM (x7.l.getD wh zMk) k || hasM (x9.l.getD wh zMk) k) := by rw [mixP_at hwb]; exact or_ok.has (hop wh hwb) (hoq wh hwb) hkb
                  refine Ex.regSeq (ExL.pures 0 rfl ?_)
                  refine ExL.free (fr_loadN rfl rfl rfl rfl rfl (SegO.whole (i := 4) rfl)) rfl rfl rfl ?_
                  refine ExL.pures 2 rfl ?_
                  refine ExL.op rfl (op_ret rfl rfl rfl (c_iHasDigit x7 (hx7.1) wh k (by omega) (by omega)) (fun _ _ => trivial) rfl rfl (fun x42 hx42 => ?_))
                  refine ExL.pures 1 rfl ?_
                  refine ExL.nil ?_
                  refine Ex.regSeq (ExL.pures 0 rfl ?_)
                  refine ExL.free (fr_loadN rfl rfl rfl rfl rfl (SegO.whole (i := 3) rfl)) rfl rfl rfl ?_
                  refine ExL.pures 2 rfl ?_
                  refine ExL.op rfl (op_ret rfl rfl rfl (c_iHasDigit x9 (hx9.1) wh k (by omega) (by omega)) (fun _ _ => trivial) rfl rfl (fun x43 hx43 => ?_))
                  refine ExL.pures 1 rfl ?_
                  refine ExL.nil ?_
                  refine Ex.regSeq (ExL.pures 0 rfl ?_)
                  refine ExL.free (fr_loadN rfl rfl rfl rfl rfl (SegO.whole (i := 1) rfl)) rfl rfl rfl ?_
                  refine ExL.pures 2 rfl ?_
                  refine ExL.op rfl (op_ret rfl rfl rfl (c_iHasDigit (mixP mtM x7 x9) (mixP_ok and_ok (hx7.1) (hx9.1)) wh k (by omega) (by omega)) (fun _ _ => trivial) rfl rfl (fun x44 hx44 => ?_))
                  refine ExL.pures 2 rfl ?_
                  refine ExL.bool (d := 368) rfl (fun hb45 => ?_) (fun hb45 => ?_)
                  · refine ExL.pures 2 rfl ?_
                    refine ExL.free (fr_neq_bool_eq (by rw [hm1, (by assumption : hasM (x7.l.getD wh zMk) k = true)]; rfl) rfl rfl rfl rfl) rfl rfl rfl ?_
                    refine ExL.pures 1 rfl ?_
                    refine ExL.free (fr_loadN rfl rfl rfl rfl rfl (SegO.whole (i := 0) rfl)) rfl rfl rfl ?_
                    refine ExL.pures 2 rfl ?_
                    refine ExL.op rfl (op_ret rfl rfl rfl (c_iHasDigit (mixP jnM x7 x9) (mixP_ok or_ok (hx7.1) (hx9.1)) wh k (by omega) (by omega)) (fun _ _ => trivial) rfl rfl (fun x46 hx46 => ?_))
                    refine ExL.pures 2 rfl ?_
                    refine ExL.bool (d := 378) rfl (fun hb47 => ?_) (fun hb47 => ?_)
                    · refine ExL.pures 2 rfl ?_
                      refine ExL.free (fr_neq_bool_eq (by rw [hm2, (by assumption : hasM (x7.l.getD wh zMk) k = true)]; rfl) rfl rfl rfl rfl) rfl rfl rfl ?_
                      refine ExL.pures 1 rfl ?_
                      refine ExL.nil ?_
                      refine Ex.cond_f rfl ?_
                      refine Ex.skip ?_
                      refine Ex.region (ExL.pures 1 rfl ?_)
                      refine ExL.free (by first | exact fr_add64 rfl rfl rfl (by omega) | exact fr_add rfl rfl rfl) rfl rfl rfl ?_
                      refine ExL.pures 1 rfl ?_
                      refine ExL.nil ?_
                      refine Hand.mk (k + 1) 6 [0, 1, 2, 3, 4, 5] ⟨rfl, trivial⟩ ⟨rfl, rfl, rfl, rfl, rfl, rfl, rfl, rfl, trivial⟩ (rfl) rfl (by omega) (by omega)
                    · refine ExL.pures 2 rfl ?_
                      refine ExL.free (fr_neq_bool_eq (by rw [hm2, (by assumption : hasM (x7.l.getD wh zMk) k = false)]; rfl) rfl rfl rfl rfl) rfl rfl rfl ?_
                      refine ExL.pures 1 rfl ?_
                      refine ExL.nil ?_
                      refine Ex.cond_f rfl ?_
                      refine Ex.skip ?_
                      refine Ex.region (ExL.pures 1 rfl ?_)
                      refine ExL.free (by first | exact fr_add64 rfl rfl rfl (by omega) | exact fr_add rfl rfl rfl) rfl rfl rfl ?_
                      refine ExL.pures 1 rfl ?_
                      refine ExL.nil ?_
                      refine Hand.mk (k + 1) 6 [0, 1, 2, 3, 4, 5] ⟨rfl, trivial⟩ ⟨rfl, rfl, rfl, rfl, rfl, rfl, rfl, rfl, trivial⟩ (rfl) rfl (by omega) (by omega)
                  · refine ExL.pures 2 rfl ?_
                    refine ExL.free (fr_neq_bool_eq (by rw [hm1, (by assumption : hasM (x7.l.getD wh zMk) k = false)]; rfl) rfl rfl rfl rfl) rfl rfl rfl ?_
                    refine ExL.pures 1 rfl ?_
                    refine ExL.free (fr_loadN rfl rfl rfl rfl rfl (SegO.whole (i := 0) rfl)) rfl rfl rfl ?_
                    refine ExL.pures 2 rfl ?_
                    refine ExL.op rfl (op_ret rfl rfl rfl (c_iHasDigit (mixP jnM x7 x9) (mixP_ok or_ok (hx7.1) (hx9.1)) wh k (by omega) (by omega)) (fun _ _ => trivial) rfl rfl (fun x48 hx48 => ?_))
                    refine ExL.pures 2 rfl ?_
                    refine ExL.bool (d := 378) rfl (fun hb49 => ?_) (fun hb49 => ?_)
                    · refine ExL.pures 2 rfl ?_
                      refine ExL.free (fr_neq_bool_eq (by rw [hm2, (by assumption : hasM (x7.l.getD wh zMk) k = true)]; rfl) rfl rfl rfl rfl) rfl rfl rfl ?_
                      refine ExL.pures 1 rfl ?_
                      refine ExL.nil ?_
                      refine Ex.cond_f rfl ?_
                      refine Ex.skip ?_
                      refine Ex.region (ExL.pures 1 rfl ?_)
                      refine ExL.free (by first | exact fr_add64 rfl rfl rfl (by omega) | exact fr_add rfl rfl rfl) rfl rfl rfl ?_
                      refine ExL.pures 1 rfl ?_
                      refine ExL.nil ?_
                      refine Hand.mk (k + 1) 6 [0, 1, 2, 3, 4, 5] ⟨rfl, trivial⟩ ⟨rfl, rfl, rfl, rfl, rfl, rfl, rfl, rfl, trivial⟩ (rfl) rfl (by omega) (by omega)
                    · refine ExL.pures 2 rfl ?_
                      refine ExL.free (fr_neq_bool_eq (by rw [hm2, (by assumption : hasM (x7.l.getD wh zMk) k = false)]; rfl) rfl rfl rfl rfl) rfl rfl rfl ?_
                      refine ExL.pures 1 rfl ?_
                      refine ExL.nil ?_
                      refine Ex.cond_f rfl ?_
                      refine Ex.skip ?_
                      refine Ex.region (ExL.pures 1 rfl ?_)
                      refine ExL.free (by first | exact fr_add64 rfl rfl rfl (by omega) | exact fr_add rfl rfl rfl) rfl rfl rfl ?_
                      refine ExL.pures 1 rfl ?_
                      refine ExL.nil ?_
                      refine Hand.mk (k + 1) 6 [0, 1, 2, 3, 4, 5] ⟨rfl, trivial⟩ ⟨rfl, rfl, rfl, rfl, rfl, rfl, rfl, rfl, trivial⟩ (rfl) rfl (by omega) (by omega)
                · refine ExL.nil ?_
                  refine Ex.cond_f rfl ?_
                  refine Ex.exit ?_
                  refine Ex.region (ExL.pures 1 rfl ?_)
                  refine ExL.free (by first | exact fr_add64 rfl rfl rfl (by omega) | exact fr_add rfl rfl rfl) rfl rfl rfl ?_
                  refine ExL.pures 1 rfl ?_
                  refine ExL.nil ?_
                  refine Hand.mk (wh + 1) 6 [0, 1, 2, 3, 4, 5] ⟨rfl, trivial⟩ ⟨rfl, rfl, rfl, rfl, rfl, rfl, rfl, trivial⟩ (rfl) rfl (by omega) (by omega)
              · refine ExL.nil ?_
                refine Ex.cond_f rfl ?_
                refine Ex.exit ?_
                have hOk := ofP_ok hSk hDk
                have hOp := ofP_ph hSk hDk
                have hOv : validPh x5.2 (ofP x5.2 (dig (digs x5.2 x6)).l) = true := valid_of hvs hOk hOp
                have hBk := blankP_ok hSk
                have hBp := blankP_ph hSk
                have hBv : validPh x5.2 (blankP x5.2) = true := valid_of hvs hBk hBp
                have hOm : mixP mtM (ofP x5.2 (dig (digs x5.2 x6)).l) (mixP mtM x7 x9) = (ofP x5.2 (dig (digs x5.2 x6)).l) := own_meets hSk hDk hom hPm (fun i hi => by have h1 := (shows_iff h8).1 hwp i hi; have h2 := (shows_iff h8).1 hwq i hi; have h3 := dAt_bd (v := x6) hSk.bases hi; have h4 := hSk.bases i hi; rw [dig_l (digs_len _ _), digs_lo h8 hi, mixP_at (by omega), and_ok.has (hop i (by omega)) (hoq i (by omega)) (by omega), h1, h2]; rfl)
                have hOv2 : photoOk x5.2 (mixP mtM (ofP x5.2 (dig (digs x5.2 x6)).l) (mixP mtM x7 x9)).l = true := by rw [hOm]; exact ph_valid hSk hOk hOp
                have hBj : mixP jnM (blankP x5.2) x7 = (blankP x5.2) := blank_joins hSk hop hPp
                have hb0 := hSk.bases 0 (by omega)
                refine Ex.regSeq (ExL.pures 1 rfl ?_)
                refine ExL.free (fr_loadN rfl rfl rfl rfl rfl (SegO.whole (i := 2) rfl)) rfl rfl rfl ?_
                refine ExL.op rfl (op_ret rfl rfl rfl (c_iPhotoOf x5.2 (by assumption) _ _ (by omega) (by assumption) (dig (digs x5.2 x6)) (by assumption) (by assumption)) (Reads.get (Reads.row (i := 5) rfl)) rfl rfl (fun x50 hx50 => ?_))
                refine ExL.pures 3 rfl ?_
                refine ExL.op rfl (op_alloc rfl rfl rfl rfl rfl (fun b51 => ?_))
                refine ExL.op rfl (op_storeC (i := 0) rfl rfl rfl rfl rfl rfl rfl rfl rfl rfl ?_)
                refine ExL.pures 1 rfl ?_
                refine ExL.nil ?_
                refine Ex.regSeq (ExL.pures 1 rfl ?_)
                refine ExL.op rfl (op_ret rfl rfl rfl (c_iBlank x5.2 (by assumption) _ _ (by omega) (by assumption)) (Reads.get (Reads.row (i := 6) rfl)) rfl rfl (fun x52 hx52 => ?_))
                refine ExL.pures 3 rfl ?_
                refine ExL.op rfl (op_alloc rfl rfl rfl rfl rfl (fun b53 => ?_))
                refine ExL.op rfl (op_storeC (i := 0) rfl rfl rfl rfl rfl rfl rfl rfl rfl rfl ?_)
                refine ExL.pures 1 rfl ?_
                refine ExL.nil ?_
                refine Ex.regSeq (ExL.pures 2 rfl ?_)
                refine ExL.free (fr_indexAddrR (sz := 1) 7 rfl rfl rfl rfl rfl rfl (by omega)) rfl rfl rfl ?_
                refine ExL.free (fr_load rfl rfl rfl rfl (cellJ (i := 0) (0) (Reads.row (i := 7) rfl) (eI_len .u8) 0 0 rfl (by omega) (by omega) rfl)) rfl rfl rfl ?_
                refine ExL.free (by first | exact fr_conv64 rfl rfl rfl rfl (by omega) | exact fr_conv rfl rfl rfl rfl) rfl rfl rfl ?_
                refine ExL.op rfl (op_ret rfl rfl rfl (c_P6Pick s _ _ (by omega) (by assumption) (x5.2.getD 0 0) (by omega)) (Reads.get (Reads.old hs)) rfl rfl (fun x54 hx54 => ?_))
                obtain ⟨kx54, hkx54⟩ : ∃ k : Nat, x54 = (k : Int) := ⟨x54.toNat, by omega⟩
                subst hkx54
                refine ExL.pures 1 rfl ?_
                refine ExL.nil ?_
                obtain ⟨dn, hdn9⟩ : ∃ z : Nat, kx54 = z := ⟨_, rfl⟩
                rw [hdn9]
                have hdn8 : (dn : Int) < x5.2.getD 0 0 := by omega
                have hWo := withP_ok hop (w := 0) (d := dn) (by omega) (by omega)
                have hWh : hasM ((withP x7 0 dn).l.getD 0 zMk) dn = true := by rw [withP_at (by omega), if_pos rfl, has_put (by omega) (by omega), decide_eq_true rfl]; rfl
                refine Ex.regSeq (ExL.pures 1 rfl ?_)
                refine ExL.free (fr_loadN rfl rfl rfl rfl rfl (SegO.whole (i := 6) rfl)) rfl rfl rfl ?_
                refine ExL.pures 1 rfl ?_
                refine ExL.op rfl (op_ret rfl rfl rfl (c_iWithDigit x5.2 (by assumption) _ _ (by omega) x7 (hx7.1) (by assumption) dn (by assumption)) (Reads.get (Reads.row (i := 7) rfl)) rfl rfl (fun x55 hx55 => ?_))
                refine ExL.pures 3 rfl ?_
                refine ExL.op rfl (op_alloc rfl rfl rfl rfl rfl (fun b56 => ?_))
                refine ExL.op rfl (op_storeC (i := 0) rfl rfl rfl rfl rfl rfl rfl rfl rfl rfl ?_)
                refine ExL.pures 1 rfl ?_
                refine ExL.nil ?_
                refine Ex.regSeq (ExL.pures 1 rfl ?_)
                refine ExL.free (fr_loadN rfl rfl rfl rfl rfl (SegO.whole (i := 7) rfl)) rfl rfl rfl ?_
                refine ExL.pures 1 rfl ?_
                refine ExL.op rfl (op_ret rfl rfl rfl (c_sWithDigit x5.2 (by assumption) _ _ (by omega) x7 (hx7.1) (by assumption) dn (by assumption)) (Reads.get (Reads.row (i := 8) rfl)) rfl rfl (fun x57 hx57 => ?_))
                refine ExL.pures 3 rfl ?_
                refine ExL.op rfl (op_alloc rfl rfl rfl rfl rfl (fun b58 => ?_))
                refine ExL.op rfl (op_storeC (i := 0) rfl rfl rfl rfl rfl rfl rfl rfl rfl rfl ?_)
                refine ExL.pures 1 rfl ?_
                refine ExL.nil ?_
                refine Ex.regSeq (ExL.pures 1 rfl ?_)
                refine ExL.free (fr_loadN rfl rfl rfl rfl rfl (SegO.whole (i := 3) rfl)) rfl rfl rfl ?_
                refine ExL.free (fr_loadN rfl rfl rfl rfl rfl (SegO.whole (i := 5) rfl)) rfl rfl rfl ?_
                refine ExL.op rfl (op_ret rfl rfl rfl (c_iMeet x5.2 (by assumption) _ _ (by omega) (ofP x5.2 (dig (digs x5.2 x6)).l) (ofP_ok (by assumption) (by assumption)) (mixP mtM x7 x9) (mixP_ok and_ok (hx7.1) (hx9.1)) (by assumption) (by assumption) (by assumption)) (Reads.get (Reads.row (i := 9) rfl)) rfl rfl (fun x59 hx59 => ?_))
                refine ExL.pures 3 rfl ?_
                refine ExL.op rfl (op_alloc rfl rfl rfl rfl rfl (fun b60 => ?_))
                refine ExL.op rfl (op_storeC (i := 0) rfl rfl rfl rfl rfl rfl rfl rfl rfl rfl ?_)
                refine ExL.pures 1 rfl ?_
                refine ExL.nil ?_
                rw [hOm]
                refine Ex.regSeq (ExL.pures 1 rfl ?_)
                refine ExL.free (fr_loadN rfl rfl rfl rfl rfl (SegO.whole (i := 3) rfl)) rfl rfl rfl ?_
                refine ExL.free (fr_loadN rfl rfl rfl rfl rfl (SegO.whole (i := 9) rfl)) rfl rfl rfl ?_
                refine ExL.op rfl (op_ret rfl rfl rfl (c_iJoin x5.2 (by assumption) _ _ (by omega) (blankP x5.2) (blankP_ok (by assumption)) x7 (hx7.1) (by assumption) (by assumption)) (Reads.get (Reads.row (i := 10) rfl)) rfl rfl (fun x61 hx61 => ?_))
                refine ExL.pures 3 rfl ?_
                refine ExL.op rfl (op_alloc rfl rfl rfl rfl rfl (fun b62 => ?_))
                refine ExL.op rfl (op_storeC (i := 0) rfl rfl rfl rfl rfl rfl rfl rfl rfl rfl ?_)
                refine ExL.pures 1 rfl ?_
                refine ExL.nil ?_
                rw [hBj]
                refine Ex.regSeq (ExL.pures 1 rfl ?_)
                refine ExL.free (fr_eql_t rfl rfl rfl (rfl)) rfl rfl rfl ?_
                refine ExL.pures 2 rfl ?_
                refine ExL.free (fr_eql_t rfl rfl rfl (rfl)) rfl rfl rfl ?_
                refine ExL.pures 4 rfl ?_
                refine ExL.free (fr_eql_t rfl rfl rfl (rfl)) rfl rfl rfl ?_
                refine ExL.pures 3 rfl ?_
                refine ExL.free (fr_eql_t rfl rfl rfl (rfl)) rfl rfl rfl ?_
                refine ExL.pures 2 rfl ?_
                refine ExL.free (fr_loadN rfl rfl rfl rfl rfl (SegO.whole (i := 3) rfl)) rfl rfl rfl ?_
                refine ExL.free (fr_loadN rfl rfl rfl rfl rfl (SegO.whole (i := 2) rfl)) rfl rfl rfl ?_
                refine ExL.free (fr_eql_rec (eq_Photo (withP x7 0 dn)) rfl rfl rfl (by kernel_rfl)) rfl rfl rfl ?_
                refine ExL.pures 2 rfl ?_
                refine ExL.free (fr_loadN rfl rfl rfl rfl rfl (SegO.whole (i := 2) rfl)) rfl rfl rfl ?_
                refine ExL.pures 1 rfl ?_
                refine ExL.op rfl (op_ret rfl rfl rfl (c_iHasDigit (withP x7 0 dn) (withP_ok (hx7.1) (by omega) (by omega)) 0 dn (by omega) (by omega)) (fun _ _ => trivial) rfl rfl (fun x63 hx63 => ?_))
                refine ExL.pures 2 rfl ?_
                refine ExL.bool (d := 453) rfl (fun hb64 => ?_) (fun hb64 => ?_)
                · refine ExL.pures 1 rfl ?_
                  refine ExL.free (fr_eql_t rfl rfl rfl (rfl)) rfl rfl rfl ?_
                  refine ExL.pures 2 rfl ?_
                  refine ExL.free (fr_loadN rfl rfl rfl rfl rfl (SegO.whole (i := 1) rfl)) rfl rfl rfl ?_
                  refine ExL.free (fr_loadN rfl rfl rfl rfl rfl (SegO.whole (i := 5) rfl)) rfl rfl rfl ?_
                  refine ExL.free (fr_eql_rec (eq_Photo (ofP x5.2 (dig (digs x5.2 x6)).l)) rfl rfl rfl (by kernel_rfl)) rfl rfl rfl ?_
                  refine ExL.pures 3 rfl ?_
                  refine ExL.free (fr_eql_t rfl rfl rfl (rfl)) rfl rfl rfl ?_
                  refine ExL.pures 2 rfl ?_
                  refine ExL.free (fr_loadN rfl rfl rfl rfl rfl (SegO.whole (i := 0) rfl)) rfl rfl rfl ?_
                  refine ExL.free (fr_loadN rfl rfl rfl rfl rfl (SegO.whole (i := 4) rfl)) rfl rfl rfl ?_
                  refine ExL.free (fr_eql_rec (eq_Photo (blankP x5.2)) rfl rfl rfl (by kernel_rfl)) rfl rfl rfl ?_
                  refine ExL.pures 2 rfl ?_
                  refine ExL.nil ?_
                  refine Ex.ret ?_
                  refine RetQ.mk () rfl (.tmp rfl .nil) (tB (by first | rfl | exact absurd rfl (by assumption) | exact absurd (hvp.symm.trans (by assumption)) (by decide) | exact absurd (hWh.symm.trans (by assumption)) (by decide))) [] (rfl) rfl (trivial)
                · refine ExL.pures 18 rfl ?_
                  refine ExL.nil ?_
                  refine Ex.ret ?_
                  refine RetQ.mk () rfl (.tmp rfl .nil) (tB (by first | rfl | exact absurd rfl (by assumption) | exact absurd (hvp.symm.trans (by assumption)) (by decide) | exact absurd (hWh.symm.trans (by assumption)) (by decide))) [] (rfl) rfl (trivial)
            · refine ExL.nil ?_
              refine Ex.cond_f rfl ?_
              refine Ex.skip ?_
              refine Ex.drawSeqM rfl ?_
              refine ExD.take (i := 0) rfl (by kernel_rfl) (pureVal_ok rfl) ((List.Sublist.refl _)) rfl rfl rfl ?_
              refine ExD.take (i := 1) rfl (by kernel_rfl) (fr_loadN rfl rfl rfl rfl rfl (SegO.whole (i := 3) rfl)) ((List.Sublist.refl _)) rfl rfl rfl ?_
              refine ExD.take (i := 2) rfl (by kernel_rfl) (pureVal_ok rfl) ((List.Sublist.refl _)) rfl rfl rfl ?_
              refine ExD.take (i := 3) rfl (by kernel_rfl) (pureVal_ok rfl) ((List.Sublist.refl _)) rfl rfl rfl ?_
              refine ExD.take (i := 4) rfl (by kernel_rfl) (fr_indexAddrR (sz := 1) 0 rfl rfl rfl rfl rfl rfl (by omega)) ((List.Sublist.refl _)) rfl rfl rfl ?_
              refine ExD.take (i := 5) rfl (by kernel_rfl) (fr_load rfl rfl rfl rfl (by first | exact cellN (Reads.row (i := 0) rfl) (eI_len .i64) 0 0 rfl (by omega) rfl | exact cellF (Reads.row (i := 0) rfl) (eI_len .i64) 0 0 rfl (by omega) rfl)) ((List.Sublist.refl _)) rfl rfl rfl ?_
              refine ExD.take (i := 6) rfl (by kernel_rfl) (by first | exact fr_add64 rfl rfl rfl (by omega) | exact fr_add rfl rfl rfl) ((List.Sublist.refl _)) rfl rfl rfl ?_
              refine ExD.op (i := 7) rfl (by kernel_rfl) rfl (op_ret rfl rfl rfl (c_iNextIn x5.2 (by assumption) _ _ (by omega) x7 (hx7.1) (by assumption) ((vinV x5.2 x7).1.getD k 0 + 1)) (Reads.get (Reads.row (i := 4) rfl)) rfl rfl (fun x65 hx65 => ⟨(List.Sublist.refl _), ?_⟩))
              refine ExD.take (i := 8) rfl (by kernel_rfl) (pureVal_ok rfl) ((List.Sublist.refl _)) rfl rfl rfl ?_
              refine ExD.take (i := 9) rfl (by kernel_rfl) (pureVal_ok rfl) ((List.Sublist.refl _)) rfl rfl rfl ?_
              refine ExD.take (i := 10) rfl (by kernel_rfl) (pureVal_ok rfl) ((List.Sublist.refl _)) rfl rfl rfl ?_
              refine ExD.take (i := 11) rfl (by kernel_rfl) (pureVal_ok rfl) ((List.Sublist.refl _)) rfl rfl rfl ?_
              refine ExD.take (i := 12) rfl (by kernel_rfl) (pureVal_ok rfl) ((List.Sublist.refl _)) rfl rfl rfl ?_
              refine ExD.done (by kernel_rfl) ?_
              refine Ex.regSeq (ExL.pures 1 rfl ?_)
              refine ExL.free (fr_eql rfl rfl rfl) rfl rfl rfl ?_
              refine ExL.pures 1 rfl ?_
              refine ExL.free (by first | exact fr_add64 rfl rfl rfl (by omega) | exact fr_add rfl rfl rfl) rfl rfl rfl ?_
              refine ExL.pures 2 rfl ?_
              refine ExL.free (fr_lss rfl rfl rfl) rfl rfl rfl ?_
              refine ExL.free (fr_neq_bool_eq (hat.flag (by assumption)) rfl rfl rfl rfl) rfl rfl rfl ?_
              refine ExL.nil ?_
              refine Ex.cond_f rfl ?_
              refine Ex.skip ?_
              refine Ex.region (ExL.pures 1 rfl ?_)
              refine ExL.free (by first | exact fr_add64 rfl rfl rfl (by omega) | exact fr_add rfl rfl rfl) rfl rfl rfl ?_
              refine ExL.pures 1 rfl ?_
              refine ExL.nil ?_
              refine Hand.mk (k + 1) 5 [0, 1, 2, 3, 4] ⟨rfl, rfl, rfl, trivial⟩ ⟨rfl, rfl, rfl, rfl, rfl, rfl, rfl, trivial⟩ (rfl) rfl (by omega) (by omega)
          · refine ExL.pures 1 rfl ?_
            refine ExL.nil ?_
            refine Ex.cond_f rfl ?_
            refine Ex.exit ?_
            refine Ex.regSeq (ExL.pures 1 rfl ?_)
            refine ExL.free (fr_loadN rfl rfl rfl rfl rfl (SegO.whole (i := 3) rfl)) rfl rfl rfl ?_
            refine ExL.free (fr_loadN rfl rfl rfl rfl rfl (SegO.whole (i := 2) rfl)) rfl rfl rfl ?_
            refine ExL.op rfl (op_ret rfl rfl rfl (c_iMeet x5.2 (by assumption) _ _ (by omega) x7 (hx7.1) x9 (hx9.1) (by assumption) (by assumption) (by assumption)) (Reads.get (Reads.row (i := 4) rfl)) rfl rfl (fun x66 hx66 => ?_))
            refine ExL.pures 3 rfl ?_
            refine ExL.op rfl (op_alloc rfl rfl rfl rfl rfl (fun b67 => ?_))
            refine ExL.op rfl (op_storeC (i := 0) rfl rfl rfl rfl rfl rfl rfl rfl rfl rfl ?_)
            refine ExL.pures 1 rfl ?_
            refine ExL.nil ?_
            refine Ex.regSeq (ExL.pures 1 rfl ?_)
            refine ExL.free (fr_loadN rfl rfl rfl rfl rfl (SegO.whole (i := 4) rfl)) rfl rfl rfl ?_
            refine ExL.free (fr_loadN rfl rfl rfl rfl rfl (SegO.whole (i := 3) rfl)) rfl rfl rfl ?_
            refine ExL.op rfl (op_ret rfl rfl rfl (c_iJoin x5.2 (by assumption) _ _ (by omega) x7 (hx7.1) x9 (hx9.1) (by assumption) (by assumption)) (Reads.get (Reads.row (i := 5) rfl)) rfl rfl (fun x68 hx68 => ?_))
            refine ExL.pures 3 rfl ?_
            refine ExL.op rfl (op_alloc rfl rfl rfl rfl rfl (fun b69 => ?_))
            refine ExL.op rfl (op_storeC (i := 0) rfl rfl rfl rfl rfl rfl rfl rfl rfl rfl ?_)
            refine ExL.pures 1 rfl ?_
            refine ExL.nil ?_
            refine Ex.regSeq (ExL.pures 1 rfl ?_)
            refine ExL.free (fr_loadN rfl rfl rfl rfl rfl (SegO.whole (i := 5) rfl)) rfl rfl rfl ?_
            refine ExL.free (fr_loadN rfl rfl rfl rfl rfl (SegO.whole (i := 4) rfl)) rfl rfl rfl ?_
            refine ExL.op rfl (op_ret rfl rfl rfl (c_sMeet x5.2 (by assumption) _ _ (by omega) x7 (hx7.1) x9 (hx9.1) (by assumption) (by assumption) (by assumption)) (Reads.get (Reads.row (i := 6) rfl)) rfl rfl (fun x70 hx70 => ?_))
            refine ExL.pures 3 rfl ?_
            refine ExL.op rfl (op_alloc rfl rfl rfl rfl rfl (fun b71 => ?_))
            refine ExL.op rfl (op_storeC (i := 0) rfl rfl rfl rfl rfl rfl rfl rfl rfl rfl ?_)
            refine ExL.pures 1 rfl ?_
            refine ExL.nil ?_
            refine Ex.regSeq (ExL.pures 1 rfl ?_)
            refine ExL.free (fr_loadN rfl rfl rfl rfl rfl (SegO.whole (i := 6) rfl)) rfl rfl rfl ?_
            refine ExL.free (fr_loadN rfl rfl rfl rfl rfl (SegO.whole (i := 5) rfl)) rfl rfl rfl ?_
            refine ExL.op rfl (op_ret rfl rfl rfl (c_sJoin x5.2 (by assumption) _ _ (by omega) x7 (hx7.1) x9 (hx9.1) (by assumption) (by assumption)) (Reads.get (Reads.row (i := 7) rfl)) rfl rfl (fun x72 hx72 => ?_))
            refine ExL.pures 3 rfl ?_
            refine ExL.op rfl (op_alloc rfl rfl rfl rfl rfl (fun b73 => ?_))
            refine ExL.op rfl (op_storeC (i := 0) rfl rfl rfl rfl rfl rfl rfl rfl rfl rfl ?_)
            refine ExL.pures 1 rfl ?_
            refine ExL.nil ?_
            refine Ex.seq ?_
            refine Ex.regSeq (ExL.pures 2 rfl ?_)
            refine ExL.free (fr_neq_f rfl rfl rfl (fun h => h rfl)) rfl rfl rfl ?_
            refine ExL.pures 2 rfl ?_
            refine ExL.free (fr_neq_f rfl rfl rfl (fun h => h rfl)) rfl rfl rfl ?_
            refine ExL.pures 2 rfl ?_
            refine ExL.free (fr_loadN rfl rfl rfl rfl rfl (SegO.whole (i := 3) rfl)) rfl rfl rfl ?_
            refine ExL.free (fr_loadN rfl rfl rfl rfl rfl (SegO.whole (i := 1) rfl)) rfl rfl rfl ?_
            refine ExL.free (fr_neq_rec (eq_Photo (mixP mtM x7 x9)) rfl rfl rfl (by kernel_rfl)) rfl rfl rfl ?_
            refine ExL.pures 4 rfl ?_
            refine ExL.free (fr_neq_f rfl rfl rfl (fun h => h rfl)) rfl rfl rfl ?_
            refine ExL.pures 3 rfl ?_
            refine ExL.free (fr_neq_f rfl rfl rfl (fun h => h rfl)) rfl rfl rfl ?_
            refine ExL.pures 2 rfl ?_
            refine ExL.free (fr_loadN rfl rfl rfl rfl rfl (SegO.whole (i := 2) rfl)) rfl rfl rfl ?_
            refine ExL.free (fr_loadN rfl rfl rfl rfl rfl (SegO.whole (i := 0) rfl)) rfl rfl rfl ?_
            refine ExL.free (fr_neq_rec (eq_Photo (mixP jnM x7 x9)) rfl rfl rfl (by kernel_rfl)) rfl rfl rfl ?_
            refine ExL.pures 1 rfl ?_
            refine ExL.nil ?_
            refine Ex.cond_f rfl ?_
            refine Ex.skip ?_
            refine Ex.seq ?_
            refine Ex.regSeq (ExL.pures 1 rfl ?_)
            refine ExL.nil ?_
            refine Ex.block ?_
            refine Ex.loopK (X := Nat) (fun wh => [(42, .int .i64 wh)]) (fun wh => []) (fun wh => wh ≤ x5.2.length) (fun wh => x5.2.length - wh) 0 [(0, _), (5, _), (7, _), (8, _), (9, _), (38, _), (40, _)] [_, _, _, _, _, _] 9 [0, 1, 5, 6, 7, 8] ⟨rfl, trivial⟩ ⟨rfl, rfl, rfl, rfl, rfl, rfl, rfl, trivial⟩ (rfl) rfl (Nat.zero_le _) (fun wh hI => ?_)
            have hI : wh ≤ x5.2.length := hI
            refine Ex.seq ?_
            refine Ex.regSeq (ExL.pures 3 rfl ?_)
            refine ExL.lss rfl rfl rfl rfl rfl rfl (fun h74 => ?_) (fun h74 => ?_)
            · refine ExL.nil ?_
              refine Ex.cond_t rfl ?_
              refine Ex.skip ?_
              refine Ex.seq ?_
              refine Ex.block ?_
              have hwl : wh < x5.2.length := by omega
              have hbw := hSk.bases wh hwl
              refine Ex.regSeq (ExL.pures 1 rfl ?_)
              refine ExL.nil ?_
              refine Ex.block ?_
              refine Ex.loopK (X := Nat) (fun k => [(43, .int .i64 k)]) (fun k => []) (fun k => (k : Int) ≤ x5.2.getD wh 0) (fun k => (x5.2.getD wh 0).toNat - k) 0 [(0, _), (5, _), (7, _), (8, _), (9, _), (38, _), (40, _), (42, _)] [_, _, _, _, _, _] 6 [0, 1, 2, 3, 4, 5] ⟨rfl, trivial⟩ ⟨rfl, rfl, rfl, rfl, rfl, rfl, rfl, rfl, trivial⟩ (rfl) rfl (by omega) (fun k hI => ?_)
              have hI : (k : Int) ≤ x5.2.getD wh 0 := hI
              refine Ex.seq ?_
              refine Ex.regSeq (ExL.pures 3 rfl ?_)
              refine ExL.free (fr_indexAddrR (sz := 1) 5 rfl rfl rfl rfl rfl rfl (by omega)) rfl rfl rfl ?_
              refine ExL.free (fr_load rfl rfl rfl rfl (by first | exact cellN (Reads.row (i := 5) rfl) (eI_len .u8) 0 0 rfl (by omega) rfl | exact cellF (Reads.row (i := 5) rfl) (eI_len .u8) 0 0 rfl (by omega) rfl)) rfl rfl rfl ?_
              refine ExL.free (by first | exact fr_conv64 rfl rfl rfl rfl (by omega) | exact fr_conv rfl rfl rfl rfl) rfl rfl rfl ?_
              refine ExL.lss rfl rfl rfl rfl rfl rfl (fun h75 => ?_) (fun h75 => ?_)
              · refine ExL.nil ?_
                refine Ex.cond_t rfl ?_
                refine Ex.skip ?_
                refine Ex.seq ?_
                refine Ex.block ?_
                have hkb : k < 128 := by omega
                have hwb : wh < 8 := by omega
                have hm1 : hasM ((mixP mtM x7 x9).l.getD wh zMk) k = (hasM (x7.l.getD wh zMk) k && hasM (x9.l.getD wh zMk) k) := by rw [mixP_at hwb]; exact and_ok.has (hop wh hwb) (hoq wh hwb) hkb
                have hm2 : hasM ((mixP jnM x7 x9).l.getD wh zMk) k = (hasM (x7.l.getD wh zMk) k || hasM (x9.l.getD wh zMk) k) := by rw [mixP_at hwb]; exact or_ok.has (hop wh hwb) (hoq wh hwb) hkb
                refine Ex.regSeq (ExL.pures 0 rfl ?_)
                refine ExL.free (fr_loadN rfl rfl rfl rfl rfl (SegO.whole (i := 4) rfl)) rfl rfl rfl ?_
                refine ExL.pures 2 rfl ?_
                refine ExL.op rfl (op_ret rfl rfl rfl (c_iHasDigit x7 (hx7.1) wh k (by omega) (by omega)) (fun _ _ => trivial) rfl rfl (fun x76 hx76 => ?_))
                refine ExL.pures 1 rfl ?_
                refine ExL.nil ?_
                refine Ex.regSeq (ExL.pures 0 rfl ?_)
                refine ExL.free (fr_loadN rfl rfl rfl rfl rfl (SegO.whole (i := 3) rfl)) rfl rfl rfl ?_
                refine ExL.pures 2 rfl ?_
                refine ExL.op rfl (op_ret rfl rfl rfl (c_iHasDigit x9 (hx9.1) wh k (by omega) (by omega)) (fun _ _ => trivial) rfl rfl (fun x77 hx77 => ?_))
                refine ExL.pures 1 rfl ?_
                refine ExL.nil ?_
                refine Ex.regSeq (ExL.pures 0 rfl ?_)
                refine ExL.free (fr_loadN rfl rfl rfl rfl rfl (SegO.whole (i := 1) rfl)) rfl rfl rfl ?_
                refine ExL.pures 2 rfl ?_
                refine ExL.op rfl (op_ret rfl rfl rfl (c_iHasDigit (mixP mtM x7 x9) (mixP_ok and_ok (hx7.1) (hx9.1)) wh k (by omega) (by omega)) (fun _ _ => trivial) rfl rfl (fun x78 hx78 => ?_))
                refine ExL.pures 2 rfl ?_
                refine ExL.bool (d := 368) rfl (fun hb79 => ?_) (fun hb79 => ?_)
                · refine ExL.pures 2 rfl ?_
                  refine ExL.free (fr_neq_bool_eq (by rw [hm1, (by assumption : hasM (x7.l.getD wh zMk) k = true)]; rfl) rfl rfl rfl rfl) rfl rfl rfl ?_
                  refine ExL.pures 1 rfl ?_
                  refine ExL.free (fr_loadN rfl rfl rfl rfl rfl (SegO.whole (i := 0) rfl)) rfl rfl rfl ?_
                  refine ExL.pures 2 rfl ?_
                  refine ExL.op rfl (op_ret rfl rfl rfl (c_iHasDigit (mixP jnM x7 x9) (mixP_ok or_ok (hx7.1) (hx9.1)) wh k (by omega) (by omega)) (fun _ _ => trivial) rfl rfl (fun x80 hx80 => ?_))
                  refine ExL.pures 2 rfl ?_
                  refine ExL.bool (d := 378) rfl (fun hb81 => ?_) (fun hb81 => ?_)
                  · refine ExL.pures 2 rfl ?_
                    refine ExL.free (fr_neq_bool_eq (by rw [hm2, (by assumption : hasM (x7.l.getD wh zMk) k = true)]; rfl) rfl rfl rfl rfl) rfl rfl rfl ?_
                    refine ExL.pures 1 rfl ?_
                    refine ExL.nil ?_
                    refine Ex.cond_f rfl ?_
                    refine Ex.skip ?_
                    refine Ex.region (ExL.pures 1 rfl ?_)
                    refine ExL.free (by first | exact fr_add64 rfl rfl rfl (by omega) | exact fr_add rfl rfl rfl) rfl rfl rfl ?_
                    refine ExL.pures 1 rfl ?_
                    refine ExL.nil ?_
                    refine Hand.mk (k + 1) 6 [0, 1, 2, 3, 4, 5] ⟨rfl, trivial⟩ ⟨rfl, rfl, rfl, rfl, rfl, rfl, rfl, rfl, trivial⟩ (rfl) rfl (by omega) (by omega)
                  · refine ExL.pures 2 rfl ?_
                    refine ExL.free (fr_neq_bool_eq (by rw [hm2, (by assumption : hasM (x7.l.getD wh zMk) k = false)]; rfl) rfl rfl rfl rfl) rfl rfl rfl ?_
                    refine ExL.pures 1 rfl ?_
                    refine ExL.nil ?_
                    refine Ex.cond_f rfl ?_
                    refine Ex.skip ?_
                    refine Ex.region (ExL.pures 1 rfl ?_)
                    refine ExL.free (by first | exact fr_add64 rfl rfl rfl (by omega) | exact fr_add rfl rfl rfl) rfl rfl rfl ?_
                    refine ExL.pures 1 rfl ?_
                    refine ExL.nil ?_
                    refine Hand.mk (k + 1) 6 [0, 1, 2, 3, 4, 5] ⟨rfl, trivial⟩ ⟨rfl, rfl, rfl, rfl, rfl, rfl, rfl, rfl, trivial⟩ (rfl) rfl (by omega) (by omega)
                · refine ExL.pures 2 rfl ?_
                  refine ExL.free (fr_neq_bool_eq (by rw [hm1, (by assumption : hasM (x7.l.getD wh zMk) k = false)]; rfl) rfl rfl rfl rfl) rfl rfl rfl ?_
                  refine ExL.pures 1 rfl ?_
                  refine ExL.free (fr_loadN rfl rfl rfl rfl rfl (SegO.whole (i := 0) rfl)) rfl rfl rfl ?_
                  refine ExL.pures 2 rfl ?_
                  refine ExL.op rfl (op_ret rfl rfl rfl (c_iHasDigit (mixP jnM x7 x9) (mixP_ok or_ok (hx7.1) (hx9.1)) wh k (by omega) (by omega)) (fun _ _ => trivial) rfl rfl (fun x82 hx82 => ?_))
                  refine ExL.pures 2 rfl ?_
                  refine ExL.bool (d := 378) rfl (fun hb83 => ?_) (fun hb83 => ?_)
                  · refine ExL.pures 2 rfl ?_
                    refine ExL.free (fr_neq_bool_eq (by rw [hm2, (by assumption : hasM (x7.l.getD wh zMk) k = true)]; rfl) rfl rfl rfl rfl) rfl rfl rfl ?_
                    refine ExL.pures 1 rfl ?_
                    refine ExL.nil ?_
                    refine Ex.cond_f rfl ?_
                    refine Ex.skip ?_
                    refine Ex.region (ExL.pures 1 rfl ?_)
                    refine ExL.free (by first | exact fr_add64 rfl rfl rfl (by omega) | exact fr_add rfl rfl rfl) rfl rfl rfl ?_
                    refine ExL.pures 1 rfl ?_
                    refine ExL.nil ?_
                    refine Hand.mk (k + 1) 6 [0, 1, 2, 3, 4, 5] ⟨rfl, trivial⟩ ⟨rfl, rfl, rfl, rfl, rfl, rfl, rfl, rfl, trivial⟩ (rfl) rfl (by omega) (by omega)
                  · refine ExL.pures 2 rfl ?_
                    refine ExL.free (fr_neq_bool_eq (by rw [hm2, (by assumption : hasM (x7.l.getD wh zMk) k = false)]; rfl) rfl rfl rfl rfl) rfl rfl rfl ?_
                    refine ExL.pures 1 rfl ?_
                    refine ExL.nil ?_
                    refine Ex.cond_f rfl ?_
                    refine Ex.skip ?_
                    refine Ex.region (ExL.pures 1 rfl ?_)
                    refine ExL.free (by first | exact fr_add64 rfl rfl rfl (by omega) | exact fr_add rfl rfl rfl) rfl rfl rfl ?_
                    refine ExL.pures 1 rfl ?_
                    refine ExL.nil ?_
                    refine Hand.mk (k + 1) 6 [0, 1, 2, 3, 4, 5] ⟨rfl, trivial⟩ ⟨rfl, rfl, rfl, rfl, rfl, rfl, rfl, rfl, trivial⟩ (rfl) rfl (by omega) (by omega)
              · refine ExL.nil ?_
                refine Ex.cond_f rfl ?_
                refine Ex.exit ?_
                refine Ex.region (ExL.pures 1 rfl ?_)
                refine ExL.free (by first | exact fr_add64 rfl rfl rfl (by omega) | exact fr_add rfl rfl rfl) rfl rfl rfl ?_
                refine ExL.pures 1 rfl ?_
                refine ExL.nil ?_
                refine Hand.mk (wh + 1) 6 [0, 1, 2, 3, 4, 5] ⟨rfl, trivial⟩ ⟨rfl, rfl, rfl, rfl, rfl, rfl, rfl, trivial⟩ (rfl) rfl (by omega) (by omega)
            · refine ExL.nil ?_
              refine Ex.cond_f rfl ?_
              refine Ex.exit ?_
              have hOk := ofP_ok hSk hDk
              have hOp := ofP_ph hSk hDk
              have hOv : validPh x5.2 (ofP x5.2 (dig (digs x5.2 x6)).l) = true := valid_of hvs hOk hOp
              have hBk := blankP_ok hSk
              have hBp := blankP_ph hSk
              have hBv : validPh x5.2 (blankP x5.2) = true := valid_of hvs hBk hBp
              have hOm : mixP mtM (ofP x5.2 (dig (digs x5.2 x6)).l) (mixP mtM x7 x9) = (ofP x5.2 (dig (digs x5.2 x6)).l) := own_meets hSk hDk hom hPm (fun i hi => by have h1 := (shows_iff h8).1 hwp i hi; have h2 := (shows_iff h8).1 hwq i hi; have h3 := dAt_bd (v := x6) hSk.bases hi; have h4 := hSk.bases i hi; rw [dig_l (digs_len _ _), digs_lo h8 hi, mixP_at (by omega), and_ok.has (hop i (by omega)) (hoq i (by omega)) (by omega), h1, h2]; rfl)
              have hOv2 : photoOk x5.2 (mixP mtM (ofP x5.2 (dig (digs x5.2 x6)).l) (mixP mtM x7 x9)).l = true := by rw [hOm]; exact ph_valid hSk hOk hOp
              have hBj : mixP jnM (blankP x5.2) x7 = (blankP x5.2) := blank_joins hSk hop hPp
              have hb0 := hSk.bases 0 (by omega)
              refine Ex.regSeq (ExL.pures 1 rfl ?_)
              refine ExL.free (fr_loadN rfl rfl rfl rfl rfl (SegO.whole (i := 2) rfl)) rfl rfl rfl ?_
              refine ExL.op rfl (op_ret rfl rfl rfl (c_iPhotoOf x5.2 (by assumption) _ _ (by omega) (by assumption) (dig (digs x5.2 x6)) (by assumption) (by assumption)) (Reads.get (Reads.row (i := 5) rfl)) rfl rfl (fun x84 hx84 => ?_))
              refine ExL.pures 3 rfl ?_
              refine ExL.op rfl (op_alloc rfl rfl rfl rfl rfl (fun b85 => ?_))
              refine ExL.op rfl (op_storeC (i := 0) rfl rfl rfl rfl rfl rfl rfl rfl rfl rfl ?_)
              refine ExL.pures 1 rfl ?_
              refine ExL.nil ?_
              refine Ex.regSeq (ExL.pures 1 rfl ?_)
              refine ExL.op rfl (op_ret rfl rfl rfl (c_iBlank x5.2 (by assumption) _ _ (by omega) (by assumption)) (Reads.get (Reads.row (i := 6) rfl)) rfl rfl (fun x86 hx86 => ?_))
              refine ExL.pures 3 rfl ?_
              refine ExL.op rfl (op_alloc rfl rfl rfl rfl rfl (fun b87 => ?_))
              refine ExL.op rfl (op_storeC (i := 0) rfl rfl rfl rfl rfl rfl rfl rfl rfl rfl ?_)
              refine ExL.pures 1 rfl ?_
              refine ExL.nil ?_
              refine Ex.regSeq (ExL.pures 2 rfl ?_)
              refine ExL.free (fr_indexAddrR (sz := 1) 7 rfl rfl rfl rfl rfl rfl (by omega)) rfl rfl rfl ?_
              refine ExL.free (fr_load rfl rfl rfl rfl (cellJ (i := 0) (0) (Reads.row (i := 7) rfl) (eI_len .u8) 0 0 rfl (by omega) (by omega) rfl)) rfl rfl rfl ?_
              refine ExL.free (by first | exact fr_conv64 rfl rfl rfl rfl (by omega) | exact fr_conv rfl rfl rfl rfl) rfl rfl rfl ?_
              refine ExL.op rfl (op_ret rfl rfl rfl (c_P6Pick s _ _ (by omega) (by assumption) (x5.2.getD 0 0) (by omega)) (Reads.get (Reads.old hs)) rfl rfl (fun x88 hx88 => ?_))
              obtain ⟨kx88, hkx88⟩ : ∃ k : Nat, x88 = (k : Int) := ⟨x88.toNat, by omega⟩
              subst hkx88
              refine ExL.pures 1 rfl ?_
              refine ExL.nil ?_
              obtain ⟨dn, hdn9⟩ : ∃ z : Nat, kx88 = z := ⟨_, rfl⟩
              rw [hdn9]
              have hdn8 : (dn : Int) < x5.2.getD 0 0 := by omega
              have hWo := withP_ok hop (w := 0) (d := dn) (by omega) (by omega)
              have hWh : hasM ((withP x7 0 dn).l.getD 0 zMk) dn = true := by rw [withP_at (by omega), if_pos rfl, has_put (by omega) (by omega), decide_eq_true rfl]; rfl
              refine Ex.regSeq (ExL.pures 1 rfl ?_)
              refine ExL.free (fr_loadN rfl rfl rfl rfl rfl (SegO.whole (i := 6) rfl)) rfl rfl rfl ?_
              refine ExL.pures 1 rfl ?_
              refine ExL.op rfl (op_ret rfl rfl rfl (c_iWithDigit x5.2 (by assumption) _ _ (by omega) x7 (hx7.1) (by assumption) dn (by assumption)) (Reads.get (Reads.row (i := 7) rfl)) rfl rfl (fun x89 hx89 => ?_))
              refine ExL.pures 3 rfl ?_
              refine ExL.op rfl (op_alloc rfl rfl rfl rfl rfl (fun b90 => ?_))
              refine ExL.op rfl (op_storeC (i := 0) rfl rfl rfl rfl rfl rfl rfl rfl rfl rfl ?_)
              refine ExL.pures 1 rfl ?_
              refine ExL.nil ?_
              refine Ex.regSeq (ExL.pures 1 rfl ?_)
              refine ExL.free (fr_loadN rfl rfl rfl rfl rfl (SegO.whole (i := 7) rfl)) rfl rfl rfl ?_
              refine ExL.pures 1 rfl ?_
              refine ExL.op rfl (op_ret rfl rfl rfl (c_sWithDigit x5.2 (by assumption) _ _ (by omega) x7 (hx7.1) (by assumption) dn (by assumption)) (Reads.get (Reads.row (i := 8) rfl)) rfl rfl (fun x91 hx91 => ?_))
              refine ExL.pures 3 rfl ?_
              refine ExL.op rfl (op_alloc rfl rfl rfl rfl rfl (fun b92 => ?_))
              refine ExL.op rfl (op_storeC (i := 0) rfl rfl rfl rfl rfl rfl rfl rfl rfl rfl ?_)
              refine ExL.pures 1 rfl ?_
              refine ExL.nil ?_
              refine Ex.regSeq (ExL.pures 1 rfl ?_)
              refine ExL.free (fr_loadN rfl rfl rfl rfl rfl (SegO.whole (i := 3) rfl)) rfl rfl rfl ?_
              refine ExL.free (fr_loadN rfl rfl rfl rfl rfl (SegO.whole (i := 5) rfl)) rfl rfl rfl ?_
              refine ExL.op rfl (op_ret rfl rfl rfl (c_iMeet x5.2 (by assumption) _ _ (by omega) (ofP x5.2 (dig (digs x5.2 x6)).l) (ofP_ok (by assumption) (by assumption)) (mixP mtM x7 x9) (mixP_ok and_ok (hx7.1) (hx9.1)) (by assumption) (by assumption) (by assumption)) (Reads.get (Reads.row (i := 9) rfl)) rfl rfl (fun x93 hx93 => ?_))
              refine ExL.pures 3 rfl ?_
              refine ExL.op rfl (op_alloc rfl rfl rfl rfl rfl (fun b94 => ?_))
              refine ExL.op rfl (op_storeC (i := 0) rfl rfl rfl rfl rfl rfl rfl rfl rfl rfl ?_)
              refine ExL.pures 1 rfl ?_
              refine ExL.nil ?_
              rw [hOm]
              refine Ex.regSeq (ExL.pures 1 rfl ?_)
              refine ExL.free (fr_loadN rfl rfl rfl rfl rfl (SegO.whole (i := 3) rfl)) rfl rfl rfl ?_
              refine ExL.free (fr_loadN rfl rfl rfl rfl rfl (SegO.whole (i := 9) rfl)) rfl rfl rfl ?_
              refine ExL.op rfl (op_ret rfl rfl rfl (c_iJoin x5.2 (by assumption) _ _ (by omega) (blankP x5.2) (blankP_ok (by assumption)) x7 (hx7.1) (by assumption) (by assumption)) (Reads.get (Reads.row (i := 10) rfl)) rfl rfl (fun x95 hx95 => ?_))
              refine ExL.pures 3 rfl ?_
              refine ExL.op rfl (op_alloc rfl rfl rfl rfl rfl (fun b96 => ?_))
              refine ExL.op rfl (op_storeC (i := 0) rfl rfl rfl rfl rfl rfl rfl rfl rfl rfl ?_)
              refine ExL.pures 1 rfl ?_
              refine ExL.nil ?_
              rw [hBj]
              refine Ex.regSeq (ExL.pures 1 rfl ?_)
              refine ExL.free (fr_eql_t rfl rfl rfl (rfl)) rfl rfl rfl ?_
              refine ExL.pures 2 rfl ?_
              refine ExL.free (fr_eql_t rfl rfl rfl (rfl)) rfl rfl rfl ?_
              refine ExL.pures 4 rfl ?_
              refine ExL.free (fr_eql_t rfl rfl rfl (rfl)) rfl rfl rfl ?_
              refine ExL.pures 3 rfl ?_
              refine ExL.free (fr_eql_t rfl rfl rfl (rfl)) rfl rfl rfl ?_
              refine ExL.pures 2 rfl ?_
              refine ExL.free (fr_loadN rfl rfl rfl rfl rfl (SegO.whole (i := 3) rfl)) rfl rfl rfl ?_
              refine ExL.free (fr_loadN rfl rfl rfl rfl rfl (SegO.whole (i := 2) rfl)) rfl rfl rfl ?_
              refine ExL.free (fr_eql_rec (eq_Photo (withP x7 0 dn)) rfl rfl rfl (by kernel_rfl)) rfl rfl rfl ?_
              refine ExL.pures 2 rfl ?_
              refine ExL.free (fr_loadN rfl rfl rfl rfl rfl (SegO.whole (i := 2) rfl)) rfl rfl rfl ?_
              refine ExL.pures 1 rfl ?_
              refine ExL.op rfl (op_ret rfl rfl rfl (c_iHasDigit (withP x7 0 dn) (withP_ok (hx7.1) (by omega) (by omega)) 0 dn (by omega) (by omega)) (fun _ _ => trivial) rfl rfl (fun x97 hx97 => ?_))
              refine ExL.pures 2 rfl ?_
              refine ExL.bool (d := 453) rfl (fun hb98 => ?_) (fun hb98 => ?_)
              · refine ExL.pures 1 rfl ?_
                refine ExL.free (fr_eql_t rfl rfl rfl (rfl)) rfl rfl rfl ?_
                refine ExL.pures 2 rfl ?_
                refine ExL.free (fr_loadN rfl rfl rfl rfl rfl (SegO.whole (i := 1) rfl)) rfl rfl rfl ?_
                refine ExL.free (fr_loadN rfl rfl rfl rfl rfl (SegO.whole (i := 5) rfl)) rfl rfl rfl ?_
                refine ExL.free (fr_eql_rec (eq_Photo (ofP x5.2 (dig (digs x5.2 x6)).l)) rfl rfl rfl (by kernel_rfl)) rfl rfl rfl ?_
                refine ExL.pures 3 rfl ?_
                refine ExL.free (fr_eql_t rfl rfl rfl (rfl)) rfl rfl rfl ?_
                refine ExL.pures 2 rfl ?_
                refine ExL.free (fr_loadN rfl rfl rfl rfl rfl (SegO.whole (i := 0) rfl)) rfl rfl rfl ?_
                refine ExL.free (fr_loadN rfl rfl rfl rfl rfl (SegO.whole (i := 4) rfl)) rfl rfl rfl ?_
                refine ExL.free (fr_eql_rec (eq_Photo (blankP x5.2)) rfl rfl rfl (by kernel_rfl)) rfl rfl rfl ?_
                refine ExL.pures 2 rfl ?_
                refine ExL.nil ?_
                refine Ex.ret ?_
                refine RetQ.mk () rfl (.tmp rfl .nil) (tB (by first | rfl | exact absurd rfl (by assumption) | exact absurd (hvp.symm.trans (by assumption)) (by decide) | exact absurd (hWh.symm.trans (by assumption)) (by decide))) [] (rfl) rfl (trivial)
              · refine ExL.pures 18 rfl ?_
                refine ExL.nil ?_
                refine Ex.ret ?_
                refine RetQ.mk () rfl (.tmp rfl .nil) (tB (by first | rfl | exact absurd rfl (by assumption) | exact absurd (hvp.symm.trans (by assumption)) (by decide) | exact absurd (hWh.symm.trans (by assumption)) (by decide))) [] (rfl) rfl (trivial)
        · refine ExL.pures 4 rfl ?_
          refine ExL.nil ?_
          refine Ex.cond_f rfl ?_
          refine Ex.exit ?_
          refine Ex.regSeq (ExL.pures 1 rfl ?_)
          refine ExL.free (fr_loadN rfl rfl rfl rfl rfl (SegO.whole (i := 3) rfl)) rfl rfl rfl ?_
          refine ExL.free (fr_loadN rfl rfl rfl rfl rfl (SegO.whole (i := 2) rfl)) rfl rfl rfl ?_
          refine ExL.op rfl (op_ret rfl rfl rfl (c_iMeet x5.2 (by assumption) _ _ (by omega) x7 (hx7.1) x9 (hx9.1) (by assumption) (by assumption) (by assumption)) (Reads.get (Reads.row (i := 4) rfl)) rfl rfl (fun x99 hx99 => ?_))
          refine ExL.pures 3 rfl ?_
          refine ExL.op rfl (op_alloc rfl rfl rfl rfl rfl (fun b100 => ?_))
          refine ExL.op rfl (op_storeC (i := 0) rfl rfl rfl rfl rfl rfl rfl rfl rfl rfl ?_)
          refine ExL.pures 1 rfl ?_
          refine ExL.nil ?_
          refine Ex.regSeq (ExL.pures 1 rfl ?_)
          refine ExL.free (fr_loadN rfl rfl rfl rfl rfl (SegO.whole (i := 4) rfl)) rfl rfl rfl ?_
          refine ExL.free (fr_loadN rfl rfl rfl rfl rfl (SegO.whole (i := 3) rfl)) rfl rfl rfl ?_
          refine ExL.op rfl (op_ret rfl rfl rfl (c_iJoin x5.2 (by assumption) _ _ (by omega) x7 (hx7.1) x9 (hx9.1) (by assumption) (by assumption)) (Reads.get (Reads.row (i := 5) rfl)) rfl rfl (fun x101 hx101 => ?_))
          refine ExL.pures 3 rfl ?_
          refine ExL.op rfl (op_alloc rfl rfl rfl rfl rfl (fun b102 => ?_))
          refine ExL.op rfl (op_storeC (i := 0) rfl rfl rfl rfl rfl rfl rfl rfl rfl rfl ?_)
          refine ExL.pures 1 rfl ?_
          refine ExL.nil ?_
          refine Ex.regSeq (ExL.pures 1 rfl ?_)
          refine ExL.free (fr_loadN rfl rfl rfl rfl rfl (SegO.whole (i := 5) rfl)) rfl rfl rfl ?_
          refine ExL.free (fr_loadN rfl rfl rfl rfl rfl (SegO.whole (i := 4) rfl)) rfl rfl rfl ?_
          refine ExL.op rfl (op_ret rfl rfl rfl (c_sMeet x5.2 (by assumption) _ _ (by omega) x7 (hx7.1) x9 (hx9.1) (by assumption) (by assumption) (by assumption)) (Reads.get (Reads.row (i := 6) rfl)) rfl rfl (fun x103 hx103 => ?_))
          refine ExL.pures 3 rfl ?_
          refine ExL.op rfl (op_alloc rfl rfl rfl rfl rfl (fun b104 => ?_))
          refine ExL.op rfl (op_storeC (i := 0) rfl rfl rfl rfl rfl rfl rfl rfl rfl rfl ?_)
          refine ExL.pures 1 rfl ?_
          refine ExL.nil ?_
          refine Ex.regSeq (ExL.pures 1 rfl ?_)
          refine ExL.free (fr_loadN rfl rfl rfl rfl rfl (SegO.whole (i := 6) rfl)) rfl rfl rfl ?_
          refine ExL.free (fr_loadN rfl rfl rfl rfl rfl (SegO.whole (i := 5) rfl)) rfl rfl rfl ?_
          refine ExL.op rfl (op_ret rfl rfl rfl (c_sJoin x5.2 (by assumption) _ _ (by omega) x7 (hx7.1) x9 (hx9.1) (by assumption) (by assumption)) (Reads.get (Reads.row (i := 7) rfl)) rfl rfl (fun x105 hx105 => ?_))
          refine ExL.pures 3 rfl ?_
          refine ExL.op rfl (op_alloc rfl rfl rfl rfl rfl (fun b106 => ?_))
          refine ExL.op rfl (op_storeC (i := 0) rfl rfl rfl rfl rfl rfl rfl rfl rfl rfl ?_)
          refine ExL.pures 1 rfl ?_
          refine ExL.nil ?_
          refine Ex.seq ?_
          refine Ex.regSeq (ExL.pures 2 rfl ?_)
          refine ExL.free (fr_neq_f rfl rfl rfl (fun h => h rfl)) rfl rfl rfl ?_
          refine ExL.pures 2 rfl ?_
          refine ExL.free (fr_neq_f rfl rfl rfl (fun h => h rfl)) rfl rfl rfl ?_
          refine ExL.pures 2 rfl ?_
          refine ExL.free (fr_loadN rfl rfl rfl rfl rfl (SegO.whole (i := 3) rfl)) rfl rfl rfl ?_
          refine ExL.free (fr_loadN rfl rfl rfl rfl rfl (SegO.whole (i := 1) rfl)) rfl rfl rfl ?_
          refine ExL.free (fr_neq_rec (eq_Photo (mixP mtM x7 x9)) rfl rfl rfl (by kernel_rfl)) rfl rfl rfl ?_
          refine ExL.pures 4 rfl ?_
          refine ExL.free (fr_neq_f rfl rfl rfl (fun h => h rfl)) rfl rfl rfl ?_
          refine ExL.pures 3 rfl ?_
          refine ExL.free (fr_neq_f rfl rfl rfl (fun h => h rfl)) rfl rfl rfl ?_
          refine ExL.pures 2 rfl ?_
          refine ExL.free (fr_loadN rfl rfl rfl rfl rfl (SegO.whole (i := 2) rfl)) rfl rfl rfl ?_
          refine ExL.free (fr_loadN rfl rfl rfl rfl rfl (SegO.whole (i := 0) rfl)) rfl rfl rfl ?_
          refine ExL.free (fr_neq_rec (eq_Photo (mixP jnM x7 x9)) rfl rfl rfl (by kernel_rfl)) rfl rfl rfl ?_
          refine ExL.pures 1 rfl ?_
          refine ExL.nil ?_
          refine Ex.cond_f rfl ?_
          refine Ex.skip ?_
          refine Ex.seq ?_
          refine Ex.regSeq (ExL.pures 1 rfl ?_)
          refine ExL.nil ?_
          refine Ex.block ?_
          refine Ex.loopK (X := Nat) (fun wh => [(42, .int .i64 wh)]) (fun wh => []) (fun wh => wh ≤ x5.2.length) (fun wh => x5.2.length - wh) 0 [(0, _), (5, _), (7, _), (8, _), (9, _), (38, _), (40, _)] [_, _, _, _, _, _] 9 [0, 1, 5, 6, 7, 8] ⟨rfl, trivial⟩ ⟨rfl, rfl, rfl, rfl, rfl, rfl, rfl, trivial⟩ (rfl) rfl (Nat.zero_le _) (fun wh hI => ?_)
          have hI : wh ≤ x5.2.length := hI
          refine Ex.seq ?_
          refine Ex.regSeq (ExL.pures 3 rfl ?_)
          refine ExL.lss rfl rfl rfl rfl rfl rfl (fun h107 => ?_) (fun h107 => ?_)
          · refine ExL.nil ?_
            refine Ex.cond_t rfl ?_
            refine Ex.skip ?_
            refine Ex.seq ?_
            refine Ex.block ?_
            have hwl : wh < x5.2.length := by omega
            have hbw := hSk.bases wh hwl
            refine Ex.regSeq (ExL.pures 1 rfl ?_)
            refine ExL.nil ?_
            refine Ex.block ?_
            refine Ex.loopK (X := Nat) (fun k => [(43, .int .i64 k)]) (fun k => []) (fun k => (k : Int) ≤ x5.2.getD wh 0) (fun k => (x5.2.getD wh 0).toNat - k) 0 [(0, _), (5, _), (7, _), (8, _), (9, _), (38, _), (40, _), (42, _)] [_, _, _, _, _, _] 6 [0, 1, 2, 3, 4, 5] ⟨rfl, trivial⟩ ⟨rfl, rfl, rfl, rfl, rfl, rfl, rfl, rfl, trivial⟩ (rfl) rfl (by omega) (fun k hI => ?_)
            have hI : (k : Int) ≤ x5.2.getD wh 0 := hI
            refine Ex.seq ?_
            refine Ex.regSeq (ExL.pures 3 rfl ?_)
            refine ExL.free (fr_indexAddrR (sz := 1) 5 rfl rfl rfl rfl rfl rfl (by omega)) rfl rfl rfl ?_
            refine ExL.free (fr_load rfl rfl rfl rfl (by first | exact cellN (Reads.row (i := 5) rfl) (eI_len .u8) 0 0 rfl (by omega) rfl | exact cellF (Reads.row (i := 5) rfl) (eI_len .u8) 0 0 rfl (by omega) rfl)) rfl rfl rfl ?_
            refine ExL.free (by first | exact fr_conv64 rfl rfl rfl rfl (by omega) | exact fr_conv rfl rfl rfl rfl) rfl rfl rfl ?_
            refine ExL.lss rfl rfl rfl rfl rfl rfl (fun h108 => ?_) (fun h108 => ?_)
            · refine ExL.nil ?_
              refine Ex.cond_t rfl ?_
              refine Ex.skip ?_
              refine Ex.seq ?_
              refine Ex.block ?_
              have hkb : k < 128 := by omega
              have hwb : wh < 8 := by omega
              have hm1 : hasM ((mixP mtM x7 x9).l.getD wh zMk) k = (hasM (x7.l.getD wh zMk) k && hasM (x9.l.getD wh zMk) k) := by rw [mixP_at hwb]; exact and_ok.has (hop wh hwb) (hoq wh hwb) hkb
              have hm2 : hasM ((mixP jnM x7 x9).l.getD wh zMk) k = (hasM (x7.l.getD wh zMk) k || hasM (x9.l.getD wh zMk) k) := by rw [mixP_at hwb]; exact or_ok.has (hop wh hwb) (hoq wh hwb) hkb
              refine Ex.regSeq (ExL.pures 0 rfl ?_)
              refine ExL.free (fr_loadN rfl rfl rfl rfl rfl (SegO.whole (i := 4) rfl)) rfl rfl rfl ?_
              refine ExL.pures 2 rfl ?_
              refine ExL.op rfl (op_ret rfl rfl rfl (c_iHasDigit x7 (hx7.1) wh k (by omega) (by omega)) (fun _ _ => trivial) rfl rfl (fun x109 hx109 => ?_))
              refine ExL.pures 1 rfl ?_
              refine ExL.nil ?_
              refine Ex.regSeq (ExL.pures 0 rfl ?_)
              refine ExL.free (fr_loadN rfl rfl rfl rfl rfl (SegO.whole (i := 3) rfl)) rfl rfl rfl ?_
              refine ExL.pures 2 rfl ?_
              refine ExL.op rfl (op_ret rfl rfl rfl (c_iHasDigit x9 (hx9.1) wh k (by omega) (by omega)) (fun _ _ => trivial) rfl rfl (fun x110 hx110 => ?_))
              refine ExL.pures 1 rfl ?_
              refine ExL.nil ?_
              refine Ex.regSeq (ExL.pures 0 rfl ?_)
              refine ExL.free (fr_loadN rfl rfl rfl rfl rfl (SegO.whole (i := 1) rfl)) rfl rfl rfl ?_
              refine ExL.pures 2 rfl ?_
              refine ExL.op rfl (op_ret rfl rfl rfl (c_iHasDigit (mixP mtM x7 x9) (mixP_ok and_ok (hx7.1) (hx9.1)) wh k (by omega) (by omega)) (fun _ _ => trivial) rfl rfl (fun x111 hx111 => ?_))
              refine ExL.pures 2 rfl ?_
              refine ExL.bool (d := 368) rfl (fun hb112 => ?_) (fun hb112 => ?_)
              · refine ExL.pures 2 rfl ?_
                refine ExL.free (fr_neq_bool_eq (by rw [hm1, (by assumption : hasM (x7.l.getD wh zMk) k = true)]; rfl) rfl rfl rfl rfl) rfl rfl rfl ?_
                refine ExL.pures 1 rfl ?_
                refine ExL.free (fr_loadN rfl rfl rfl rfl rfl (SegO.whole (i := 0) rfl)) rfl rfl rfl ?_
                refine ExL.pures 2 rfl ?_
                refine ExL.op rfl (op_ret rfl rfl rfl (c_iHasDigit (mixP jnM x7 x9) (mixP_ok or_ok (hx7.1) (hx9.1)) wh k (by omega) (by omega)) (fun _ _ => trivial) rfl rfl (fun x113 hx113 => ?_))
                refine ExL.pures 2 rfl ?_
                refine ExL.bool (d := 378) rfl (fun hb114 => ?_) (fun hb114 => ?_)
                · refine ExL.pures 2 rfl ?_
                  refine ExL.free (fr_neq_bool_eq (by rw [hm2, (by assumption : hasM (x7.l.getD wh zMk) k = true)]; rfl) rfl rfl rfl rfl) rfl rfl rfl ?_
                  refine ExL.pures 1 rfl ?_
                  refine ExL.nil ?_
                  refine Ex.cond_f rfl ?_
                  refine Ex.skip ?_
                  refine Ex.region (ExL.pures 1 rfl ?_)
                  refine ExL.free (by first | exact fr_add64 rfl rfl rfl (by omega) | exact fr_add rfl rfl rfl) rfl rfl rfl ?_
                  refine ExL.pures 1 rfl ?_
                  refine ExL.nil ?_
                  refine Hand.mk (k + 1) 6 [0, 1, 2, 3, 4, 5] ⟨rfl, trivial⟩ ⟨rfl, rfl, rfl, rfl, rfl, rfl, rfl, rfl, trivial⟩ (rfl) rfl (by omega) (by omega)
                · refine ExL.pures 2 rfl ?_
                  refine ExL.free (fr_neq_bool_eq (by rw [hm2, (by assumption : hasM (x7.l.getD wh zMk) k = false)]; rfl) rfl rfl rfl rfl) rfl rfl rfl ?_
                  refine ExL.pures 1 rfl ?_
                  refine ExL.nil ?_
                  refine Ex.cond_f rfl ?_
                  refine Ex.skip ?_
                  refine Ex.region (ExL.pures 1 rfl ?_)
                  refine ExL.free (by first | exact fr_add64 rfl rfl rfl (by omega) | exact fr_add rfl rfl rfl) rfl rfl rfl ?_
                  refine ExL.pures 1 rfl ?_
                  refine ExL.nil ?_
                  refine Hand.mk (k + 1) 6 [0, 1, 2, 3, 4, 5] ⟨rfl, trivial⟩ ⟨rfl, rfl, rfl, rfl, rfl, rfl, rfl, rfl, trivial⟩ (rfl) rfl (by omega) (by omega)
              · refine ExL.pures 2 rfl ?_
                refine ExL.free (fr_neq_bool_eq (by rw [hm1, (by assumption : hasM (x7.l.getD wh zMk) k = false)]; rfl) rfl rfl rfl rfl) rfl rfl rfl ?_
                refine ExL.pures 1 rfl ?_
                refine ExL.free (fr_loadN rfl rfl rfl rfl rfl (SegO.whole (i := 0) rfl)) rfl rfl rfl ?_
                refine ExL.pures 2 rfl ?_
                refine ExL.op rfl (op_ret rfl rfl rfl (c_iHasDigit (mixP jnM x7 x9) (mixP_ok or_ok (hx7.1) (hx9.1)) wh k (by omega) (by omega)) (fun _ _ => trivial) rfl rfl (fun x115 hx115 => ?_))
                refine ExL.pures 2 rfl ?_
                refine ExL.bool (d := 378) rfl (fun hb116 => ?_) (fun hb116 => ?_)
                · refine ExL.pures 2 rfl ?_
                  refine ExL.free (fr_neq_bool_eq (by rw [hm2, (by assumption : hasM (x7.l.getD wh zMk) k = true)]; rfl) rfl rfl rfl rfl) rfl rfl rfl ?_
                  refine ExL.pures 1 rfl ?_
                  refine ExL.nil ?_
                  refine Ex.cond_f rfl ?_
                  refine Ex.skip ?_
                  refine Ex.region (ExL.pures 1 rfl ?_)
                  refine ExL.free (by first | exact fr_add64 rfl rfl rfl (by omega) | exact fr_add rfl rfl rfl) rfl rfl rfl ?_
                  refine ExL.pures 1 rfl ?_
                  refine ExL.nil ?_
                  refine Hand.mk (k + 1) 6 [0, 1, 2, 3, 4, 5] ⟨rfl, trivial⟩ ⟨rfl, rfl, rfl, rfl, rfl, rfl, rfl, rfl, trivial⟩ (rfl) rfl (by omega) (by omega)
                · refine ExL.pures 2 rfl ?_
                  refine ExL.free (fr_neq_bool_eq (by rw [hm2, (by assumption : hasM (x7.l.getD wh zMk) k = false)]; rfl) rfl rfl rfl rfl) rfl rfl rfl ?_
                  refine ExL.pures 1 rfl ?_
                  refine ExL.nil ?_
                  refine Ex.cond_f rfl ?_
                  refine Ex.skip ?_
                  refine Ex.region (ExL.pures 1 rfl ?_)
                  refine ExL.free (by first | exact fr_add64 rfl rfl rfl (by omega) | exact fr_add rfl rfl rfl) rfl rfl rfl ?_
                  refine ExL.pures 1 rfl ?_
                  refine ExL.nil ?_
                  refine Hand.mk (k + 1) 6 [0, 1, 2, 3, 4, 5] ⟨rfl, trivial⟩ ⟨rfl, rfl, rfl, rfl, rfl, rfl, rfl, rfl, trivial⟩ (rfl) rfl (by omega) (by omega)
            · refine ExL.nil ?_
              refine Ex.cond_f rfl ?_
              refine Ex.exit ?_
              refine Ex.region (ExL.pures 1 rfl ?_)
              refine ExL.free (by first | exact fr_add64 rfl rfl rfl (by omega) | exact fr_add rfl rfl rfl) rfl rfl rfl ?_
              refine ExL.pures 1 rfl ?_
              refine ExL.nil ?_
              refine Hand.mk (wh + 1) 6 [0, 1, 2, 3, 4, 5] ⟨rfl, trivial⟩ ⟨rfl, rfl, rfl, rfl, rfl, rfl, rfl, trivial⟩ (rfl) rfl (by omega) (by omega)
          · refine ExL.nil ?_
            refine Ex.cond_f rfl ?_
            refine Ex.exit ?_
            have hOk := ofP_ok hSk hDk
            have hOp := ofP_ph hSk hDk
            have hOv : validPh x5.2 (ofP x5.2 (dig (digs x5.2 x6)).l) = true := valid_of hvs hOk hOp
            have hBk := blankP_ok hSk
            have hBp := blankP_ph hSk
            have hBv : validPh x5.2 (blankP x5.2) = true := valid_of hvs hBk hBp
            have hOm : mixP mtM (ofP x5.2 (dig (digs x5.2 x6)).l) (mixP mtM x7 x9) = (ofP x5.2 (dig (digs x5.2 x6)).l) := own_meets hSk hDk hom hPm (fun i hi => by have h1 := (shows_iff h8).1 hwp i hi; have h2 := (shows_iff h8).1 hwq i hi; have h3 := dAt_bd (v := x6) hSk.bases hi; have h4 := hSk.bases i hi; rw [dig_l (digs_len _ _), digs_lo h8 hi, mixP_at (by omega), and_ok.has (hop i (by omega)) (hoq i (by omega)) (by omega), h1, h2]; rfl)
            have hOv2 : photoOk x5.2 (mixP mtM (ofP x5.2 (dig (digs x5.2 x6)).l) (mixP mtM x7 x9)).l = true := by rw [hOm]; exact ph_valid hSk hOk hOp
            have hBj : mixP jnM (blankP x5.2) x7 = (blankP x5.2) := blank_joins hSk hop hPp
            have hb0 := hSk.bases 0 (by omega)
            refine Ex.regSeq (ExL.pures 1 rfl ?_)
            refine ExL.free (fr_loadN rfl rfl rfl rfl rfl (SegO.whole (i := 2) rfl)) rfl rfl rfl ?_
            refine ExL.op rfl (op_ret rfl rfl rfl (c_iPhotoOf x5.2 (by assumption) _ _ (by omega) (by assumption) (dig (digs x5.2 x6)) (by assumption) (by assumption)) (Reads.get (Reads.row (i := 5) rfl)) rfl rfl (fun x117 hx117 => ?_))
            refine ExL.pures 3 rfl ?_
            refine ExL.op rfl (op_alloc rfl rfl rfl rfl rfl (fun b118 => ?_))
            refine ExL.op rfl (op_storeC (i := 0) rfl rfl rfl rfl rfl rfl rfl rfl rfl rfl ?_)
            refine ExL.pures 1 rfl ?_
            refine ExL.nil ?_
            refine Ex.regSeq (ExL.pures 1 rfl ?_)
            refine ExL.op rfl (op_ret rfl rfl rfl (c_iBlank x5.2 (by assumption) _ _ (by omega) (by assumption)) (Reads.get (Reads.row (i := 6) rfl)) rfl rfl (fun x119 hx119 => ?_))
            refine ExL.pures 3 rfl ?_
            refine ExL.op rfl (op_alloc rfl rfl rfl rfl rfl (fun b120 => ?_))
            refine ExL.op rfl (op_storeC (i := 0) rfl rfl rfl rfl rfl rfl rfl rfl rfl rfl ?_)
            refine ExL.pures 1 rfl ?_
            refine ExL.nil ?_
            refine Ex.regSeq (ExL.pures 2 rfl ?_)
            refine ExL.free (fr_indexAddrR (sz := 1) 7 rfl rfl rfl rfl rfl rfl (by omega)) rfl rfl rfl ?_
            refine ExL.free (fr_load rfl rfl rfl rfl (cellJ (i := 0) (0) (Reads.row (i := 7) rfl) (eI_len .u8) 0 0 rfl (by omega) (by omega) rfl)) rfl rfl rfl ?_
            refine ExL.free (by first | exact fr_conv64 rfl rfl rfl rfl (by omega) | exact fr_conv rfl rfl rfl rfl) rfl rfl rfl ?_
            refine ExL.op rfl (op_ret rfl rfl rfl (c_P6Pick s _ _ (by omega) (by assumption) (x5.2.getD 0 0) (by omega)) (Reads.get (Reads.old hs)) rfl rfl (fun x121 hx121 => ?_))
            obtain ⟨kx121, hkx121⟩ : ∃ k : Nat, x121 = (k : Int) := ⟨x121.toNat, by omega⟩
            subst hkx121
            refine ExL.pures 1 rfl ?_
            refine ExL.nil ?_
            obtain ⟨dn, hdn9⟩ : ∃ z : Nat, kx121 = z := ⟨_, rfl⟩
            rw [hdn9]
            have hdn8 : (dn : Int) < x5.2.getD 0 0 := by omega
            have hWo := withP_ok hop (w := 0) (d := dn) (by omega) (by omega)
            have hWh : hasM ((withP x7 0 dn).l.getD 0 zMk) dn = true := by rw [withP_at (by omega), if_pos rfl, has_put (by omega) (by omega), decide_eq_true rfl]; rfl
            refine Ex.regSeq (ExL.pures 1 rfl ?_)
            refine ExL.free (fr_loadN rfl rfl rfl rfl rfl (SegO.whole (i := 6) rfl)) rfl rfl rfl ?_
            refine ExL.pures 1 rfl ?_
            refine ExL.op rfl (op_ret rfl rfl rfl (c_iWithDigit x5.2 (by assumption) _ _ (by omega) x7 (hx7.1) (by assumption) dn (by assumption)) (Reads.get (Reads.row (i := 7) rfl)) rfl rfl (fun x122 hx122 => ?_))
            refine ExL.pures 3 rfl ?_
            refine ExL.op rfl (op_alloc rfl rfl rfl rfl rfl (fun b123 => ?_))
            refine ExL.op rfl (op_storeC (i := 0) rfl rfl rfl rfl rfl rfl rfl rfl rfl rfl ?_)
            refine ExL.pures 1 rfl ?_
            refine ExL.nil ?_
            refine Ex.regSeq (ExL.pures 1 rfl ?_)
            refine ExL.free (fr_loadN rfl rfl rfl rfl rfl (SegO.whole (i := 7) rfl)) rfl rfl rfl ?_
            refine ExL.pures 1 rfl ?_
            refine ExL.op rfl (op_ret rfl rfl rfl (c_sWithDigit x5.2 (by assumption) _ _ (by omega) x7 (hx7.1) (by assumption) dn (by assumption)) (Reads.get (Reads.row (i := 8) rfl)) rfl rfl (fun x124 hx124 => ?_))
            refine ExL.pures 3 rfl ?_
            refine ExL.op rfl (op_alloc rfl rfl rfl rfl rfl (fun b125 => ?_))
            refine ExL.op rfl (op_storeC (i := 0) rfl rfl rfl rfl rfl rfl rfl rfl rfl rfl ?_)
            refine ExL.pures 1 rfl ?_
            refine ExL.nil ?_
            refine Ex.regSeq (ExL.pures 1 rfl ?_)
            refine ExL.free (fr_loadN rfl rfl rfl rfl rfl (SegO.whole (i := 3) rfl)) rfl rfl rfl ?_
            refine ExL.free (fr_loadN rfl rfl rfl rfl rfl (SegO.whole (i := 5) rfl)) rfl rfl rfl ?_
            refine ExL.op rfl (op_ret rfl rfl rfl (c_iMeet x5.2 (by assumption) _ _ (by omega) (ofP x5.2 (dig (digs x5.2 x6)).l) (ofP_ok (by assumption) (by assumption)) (mixP mtM x7 x9) (mixP_ok and_ok (hx7.1) (hx9.1)) (by assumption) (by assumption) (by assumption)) (Reads.get (Reads.row (i := 9) rfl)) rfl rfl (fun x126 hx126 => ?_))
            refine ExL.pures 3 rfl ?_
            refine ExL.op rfl (op_alloc rfl rfl rfl rfl rfl (fun b127 => ?_))
            refine ExL.op rfl (op_storeC (i := 0) rfl rfl rfl rfl rfl rfl rfl rfl rfl rfl ?_)
            refine ExL.pures 1 rfl ?_
            refine ExL.nil ?_
            rw [hOm]
            refine Ex.regSeq (ExL.pures 1 rfl ?_)
            refine ExL.free (fr_loadN rfl rfl rfl rfl rfl (SegO.whole (i := 3) rfl)) rfl rfl rfl ?_
            refine ExL.free (fr_loadN rfl rfl rfl rfl rfl (SegO.whole (i := 9) rfl)) rfl rfl rfl ?_
            refine ExL.op rfl (op_ret rfl rfl rfl (c_iJoin x5.2 (by assumption) _ _ (by omega) (blankP x5.2) (blankP_ok (by assumption)) x7 (hx7.1) (by assumption) (by assumption)) (Reads.get (Reads.row (i := 10) rfl)) rfl rfl (fun x128 hx128 => ?_))
            refine ExL.pures 3 rfl ?_
            refine ExL.op rfl (op_alloc rfl rfl rfl rfl rfl (fun b129 => ?_))
            refine ExL.op rfl (op_storeC (i := 0) rfl rfl rfl rfl rfl rfl rfl rfl rfl rfl ?_)
            refine ExL.pures 1 rfl ?_
            refine ExL.nil ?_
            rw [hBj]
            refine Ex.regSeq (ExL.pures 1 rfl ?_)
            refine ExL.free (fr_eql_t rfl rfl rfl (rfl)) rfl rfl rfl ?_
            refine ExL.pures 2 rfl ?_
            refine ExL.free (fr_eql_t rfl rfl rfl (rfl)) rfl rfl rfl ?_
            refine ExL.pures 4 rfl ?_
            refine ExL.free (fr_eql_t rfl rfl rfl (rfl)) rfl rfl rfl ?_
            refine ExL.pures 3 rfl ?_
            refine ExL.free (fr_eql_t rfl rfl rfl (rfl)) rfl rfl rfl ?_
            refine ExL.pures 2 rfl ?_
            refine ExL.free (fr_loadN rfl rfl rfl rfl rfl (SegO.whole (i := 3) rfl)) rfl rfl rfl ?_
            refine ExL.free (fr_loadN rfl rfl rfl rfl rfl (SegO.whole (i := 2) rfl)) rfl rfl rfl ?_
            refine ExL.free (fr_eql_rec (eq_Photo (withP x7 0 dn)) rfl rfl rfl (by kernel_rfl)) rfl rfl rfl ?_
            refine ExL.pures 2 rfl ?_
            refine ExL.free (fr_loadN rfl rfl rfl rfl rfl (SegO.whole (i := 2) rfl)) rfl rfl rfl ?_
            refine ExL.pures 1 rfl ?_
            refine ExL.op rfl (op_ret rfl rfl rfl (c_iHasDigit (withP x7 0 dn) (withP_ok (hx7.1) (by omega) (by omega)) 0 dn (by omega) (by omega)) (fun _ _ => trivial) rfl rfl (fun x130 hx130 => ?_))
            refine ExL.pures 2 rfl ?_
            refine ExL.bool (d := 453) rfl (fun hb131 => ?_) (fun hb131 => ?_)
            · refine ExL.pures 1 rfl ?_
              refine ExL.free (fr_eql_t rfl rfl rfl (rfl)) rfl rfl rfl ?_
              refine ExL.pures 2 rfl ?_
              refine ExL.free (fr_loadN rfl rfl rfl rfl rfl (SegO.whole (i := 1) rfl)) rfl rfl rfl ?_
              refine ExL.free (fr_loadN rfl rfl rfl rfl rfl (SegO.whole (i := 5) rfl)) rfl rfl rfl ?_
              refine ExL.free (fr_eql_rec (eq_Photo (ofP x5.2 (dig (digs x5.2 x6)).l)) rfl rfl rfl (by kernel_rfl)) rfl rfl rfl ?_
              refine ExL.pures 3 rfl ?_
              refine ExL.free (fr_eql_t rfl rfl rfl (rfl)) rfl rfl rfl ?_
              refine ExL.pures 2 rfl ?_
              refine ExL.free (fr_loadN rfl rfl rfl rfl rfl (SegO.whole (i := 0) rfl)) rfl rfl rfl ?_
              refine ExL.free (fr_loadN rfl rfl rfl rfl rfl (SegO.whole (i := 4) rfl)) rfl rfl rfl ?_
              refine ExL.free (fr_eql_rec (eq_Photo (blankP x5.2)) rfl rfl rfl (by kernel_rfl)) rfl rfl rfl ?_
              refine ExL.pures 2 rfl ?_
              refine ExL.nil ?_
              refine Ex.ret ?_
              refine RetQ.mk () rfl (.tmp rfl .nil) (tB (by first | rfl | exact absurd rfl (by assumption) | exact absurd (hvp.symm.trans (by assumption)) (by decide) | exact absurd (hWh.symm.trans (by assumption)) (by decide))) [] (rfl) rfl (trivial)
            · refine ExL.pures 18 rfl ?_
              refine ExL.nil ?_
              refine Ex.ret ?_
              refine RetQ.mk () rfl (.tmp rfl .nil) (tB (by first | rfl | exact absurd rfl (by assumption) | exact absurd (hvp.symm.trans (by assumption)) (by decide) | exact absurd (hWh.symm.trans (by assumption)) (by decide))) [] (rfl) rfl (trivial)
end Go.Proofs.YtdgfalhfmboalaaGreatDoor
