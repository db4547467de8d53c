/- What these functions of the program hand back, each proved by walking its operations. -/
import Derived.Test.YtepahnikcojepaaProg
import Derived.Test.YtepahnikcojepaaFw
import Derived.Test.YtepahnikcojepaaGJ2
import Derived.Test.YtepahnikcojepaaM22
set_option linter.unusedVariables false
set_option linter.unusedSimpArgs false
set_option maxRecDepth 4000
namespace Go.Proofs.Ytepahnikcojepaa
open Go Go.Sx Go.RowKit Go.W Go.Proofs
attribute [local irreducible] Ex ExL ExD Op1 Free RetQ MutQ Reads CellO SegO LoadsAs
theorem e_38 : Enters Try.prog 38 := Enters.of Try.func38 rfl
theorem c_sWithout (s : List Int) (hu : Nums 255 s) (As : Option Addr) (cs : Nat) (hls : s.length ≤ maxLen) (l : List VP) (Al : Option Addr) (cl : Nat) (hll : l.length ≤ maxLen) (f : VP) (wo : Int) (hcl : l.length ≤ cl) : Ret Try.prog 38 [.slice As s.length cs, .slice Al l.length cl, .agg (encP f).toArray, .int .i64 wo] (fun w => Rd w As (s.flatMap (eI .u8)) ∧ Rd w Al (l.flatMap encP)) (fun x : Unit => .tuple #[.int .i64 (withoutV s l f wo).1, .int .i64 (withoutV s l f wo).2]) (fun x => []) (fun x => True) := by
  refine Ret.of e_38 Try.func38 rfl Try.ntmps38 rfl rfl (fun w hpre => ?_)
  have hs := hpre.1.base
  have hl := hpre.2.base
  have hm0 : maxLen = 9223372036854775807 := rfl
  refine Ex.regSeq (ExL.pures 0 rfl ?_)
  refine ExL.op rfl (op_box rfl rfl rfl rfl rfl (fun b1 => ?_))
  refine ExL.pures 2 rfl ?_
  refine ExL.nil ?_
  refine Ex.seq ?_
  refine Ex.regSeq (ExL.pures 2 rfl ?_)
  refine ExL.free (fr_loadN rfl rfl rfl rfl rfl (SegO.whole (i := 0) rfl)) rfl rfl rfl ?_
  refine ExL.op rfl (op_ret rfl rfl rfl (c_l04Asked s (by assumption) _ _ (by omega) l _ _ (by omega) f) (fun w hw => ⟨Reads.get (Reads.old hs) w hw, Reads.get (Reads.old hl) w hw⟩) rfl rfl (fun x2 hx2 => ?_))
  refine ExL.pures 1 rfl ?_
  refine ExL.nil ?_
  refine Ex.regSeq (ExL.pures 1 rfl ?_)
  refine ExL.neq rfl rfl rfl rfl rfl rfl (fun h3 => ?_) (fun h3 => ?_)
  · refine ExL.nil ?_
    refine Ex.cond_t rfl ?_
    obtain ⟨hask, hcod⟩ := askC_1 (by omega)
    rw [hcod]
    have hwt := wt_1 (f := f) (w := wo) hask
    refine Ex.regSeq (ExL.pures 3 rfl ?_)
    refine ExL.nil ?_
    refine Ex.ret ?_
    refine RetQ.mk () rfl (.tmp rfl (.tmp rfl .nil)) (t2 (vI (by rw [hwt]; first | done | rfl | (rw [hbc]; first | done | rfl))) (vI (by rw [hwt]; first | done | rfl))) [] (rfl) rfl (trivial)
  · refine ExL.nil ?_
    refine Ex.cond_f rfl ?_
    refine Ex.skip ?_
    refine Ex.seq ?_
    have hask := askC_0 (s := s) (l := l) (f := f) (by omega)
    obtain ⟨hL, hf⟩ := ask_of hask
    have hLl := hL.len
    refine Ex.regSeq (ExL.pures 3 rfl ?_)
    refine ExL.free (by first | exact fr_sub64 rfl rfl rfl (by omega) | exact fr_sub rfl rfl rfl) rfl rfl rfl ?_
    refine ExL.op rfl (op_ret rfl rfl rfl (c_l00In _ _ _) (fun _ _ => trivial) rfl rfl (fun x4 hx4 => ?_))
    refine ExL.pures 1 rfl ?_
    refine ExL.nil ?_
    refine Ex.cond rfl (fun hb5 => ?_) (fun hb5 => ?_)
    · replace hb5 := nd_t hb5
      have hwt := wt_2 (f := f) (w := wo) hask (by omega)
      refine Ex.regSeq (ExL.pures 2 rfl ?_)
      refine ExL.nil ?_
      refine Ex.ret ?_
      refine RetQ.mk () rfl (.tmp rfl (.tmp rfl .nil)) (t2 (vI (by rw [hwt]; first | done | rfl | (rw [hbc]; first | done | rfl))) (vI (by rw [hwt]; first | done | rfl))) [] (rfl) rfl (trivial)
    · replace hb5 := nd_f hb5
      refine Ex.skip ?_
      refine Ex.seq ?_
      refine Ex.regSeq (ExL.pures 2 rfl ?_)
      refine ExL.eql rfl rfl rfl rfl rfl rfl (fun h6 => ?_) (fun h6 => ?_)
      · refine ExL.nil ?_
        refine Ex.cond_t rfl ?_
        have hwt := wt_6 (f := f) (w := wo) hask (by omega) (by omega)
        refine Ex.regSeq (ExL.pures 2 rfl ?_)
        refine ExL.nil ?_
        refine Ex.ret ?_
        refine RetQ.mk () rfl (.tmp rfl (.tmp rfl .nil)) (t2 (vI (by rw [hwt]; first | done | rfl | (rw [hbc]; first | done | rfl))) (vI (by rw [hwt]; first | done | rfl))) [] (rfl) rfl (trivial)
      · refine ExL.nil ?_
        refine Ex.cond_f rfl ?_
        refine Ex.skip ?_
        have hwt := wt_0 (f := f) hask (by omega : 0 ≤ wo ∧ wo ≤ (l.length : Int) - 1) (by omega)
        obtain ⟨v, rfl⟩ : ∃ v : Nat, wo = (v : Int) := ⟨wo.toNat, by omega⟩
        have hvl : v < l.length := by omega
        rw [wt_c hvl (by omega)] at hwt
        have hl1 := hl.takeL encP_len v
        have hl2 := hl.dropL encP_len hcl (v + 1)
        have hcl1 := cutL_len hvl
        have hLc := hL.cut hvl
        obtain ⟨ad, hAd⟩ := hl.some encP_len (by decide) (by omega)
        subst hAd
        refine Ex.drawSeqM rfl ?_
        refine ExD.take (i := 1) rfl (by kernel_rfl) (pureVal_ok rfl) ((List.Sublist.refl _)) rfl rfl rfl ?_
        refine ExD.take (i := 2) rfl (by kernel_rfl) (pureVal_ok rfl) ((List.Sublist.refl _)) rfl rfl rfl ?_
        refine ExD.take (i := 3) rfl (by kernel_rfl) (fr_slice_h (sz := 2) (v) (by first | rfl | (push_cast; rfl)) rfl rfl rfl rfl rfl (by omega)) ((List.Sublist.refl _)) rfl rfl rfl ?_
        refine ExD.take (i := 5) rfl (by kernel_rfl) (pureVal_ok rfl) ((List.Sublist.refl _)) rfl rfl rfl ?_
        refine ExD.take (i := 6) rfl (by kernel_rfl) (pureVal_ok rfl) ((List.Sublist.refl _)) rfl rfl rfl ?_
        refine ExD.take (i := 7) rfl (by kernel_rfl) (by first | exact fr_add64 rfl rfl rfl (by omega) | exact fr_add rfl rfl rfl) ((List.Sublist.refl _)) rfl rfl rfl ?_
        refine ExD.take (i := 8) rfl (by kernel_rfl) (fr_slice_l (sz := 2) ((v + 1)) (by first | rfl | (push_cast; rfl)) rfl rfl rfl rfl rfl (by omega)) ((List.Sublist.refl _)) rfl rfl rfl ?_
        refine ExD.op (i := 0) rfl (by kernel_rfl) rfl (op_buildSlice (sz := 2) rfl rfl rfl rfl rfl rfl rfl rfl (by decide) rfl rfl rfl (fun r7 => ⟨(List.Sublist.cons _ (List.Sublist.refl _)), ?_⟩))
        refine ExD.op (i := 4) rfl (by kernel_rfl) rfl (op_append0 (sz := 2) (bytes := 16) (i := 0) rfl rfl rfl rfl (Reads.old hl1) (by rw [flat_len encP_len, List.length_take]; omega) (fun e => nomatch e) (all_flat (fun _ => rfl) _) rfl rfl rfl (by constructor <;> first | omega | (unfold maxLen; omega)) rfl rfl (fun A8 cA8 => ⟨(List.Sublist.cons _ (List.Sublist.refl _)), ?_⟩))
        refine ExD.op (i := 9) rfl (by kernel_rfl) rfl (op_append (sz := 2) (bytes := 16) (i := 0) rfl rfl rfl rfl (Reads.old hl2) (by rw [flat_len encP_len, List.length_drop]) (fun e => absurd e cutA_some) (all_flat (fun _ => rfl) _) rfl rfl rfl (by constructor <;> first | omega | (unfold maxLen; omega)) rfl rfl (fun A10 cA10 => ⟨(List.Sublist.cons _ (List.Sublist.refl _)), ?_⟩))
        rw [← List.flatMap_append, show v + (l.length - (v + 1)) = (cutL l v).length by omega, show l.take v ++ l.drop (v + 1) = (cutL l v) from rfl]
        refine ExD.take (i := 10) rfl (by kernel_rfl) (pureVal_ok rfl) ((List.Sublist.cons _ (List.Sublist.refl _))) rfl rfl rfl ?_
        refine ExD.done (by kernel_rfl) ?_
        refine Ex.regSeq (ExL.pures 2 rfl ?_)
        refine ExL.free (fr_loadN rfl rfl rfl rfl rfl (SegO.whole (i := 1) rfl)) rfl rfl rfl ?_
        refine ExL.op rfl (op_ret rfl rfl rfl (c_l04Best s (by assumption) _ _ (by omega) (cutL l v) _ _ (by omega) (by assumption) f (by assumption)) (fun w hw => ⟨Reads.get (Reads.old hs) w hw, Reads.get (Reads.row (i := 0) rfl) w hw⟩) rfl rfl (fun x12 hx12 => ?_))
        refine ExL.op rfl (op_alloc rfl rfl rfl rfl rfl (fun b13 => ?_))
        refine ExL.op rfl (op_storeC (i := 0) rfl rfl rfl rfl rfl rfl rfl rfl rfl rfl ?_)
        refine ExL.nil ?_
        have hbb := bst_bd (fit := fitsF s (cutL l v) f) (n := (cutL l v).length) _ (Nat.le_refl _)
        have hbc : (stV (fitsF s (cutL l v) f) (cutL l v).length).cost = (bstV (fitsF s (cutL l v) f) (cutL l v).length (cutL l v).length).cost := rfl
        refine Ex.regSeq (ExL.pures 1 rfl ?_)
        refine ExL.free (fr_load rfl rfl rfl rfl (CellO.blk (i := 0) rfl rfl)) rfl rfl rfl ?_
        refine ExL.free (by first | exact fr_add64 rfl rfl rfl (by omega) | exact fr_add rfl rfl rfl) rfl rfl rfl ?_
        refine ExL.pures 2 rfl ?_
        refine ExL.nil ?_
        refine Ex.ret ?_
        refine RetQ.mk () rfl (.tmp rfl (.tmp rfl .nil)) (t2 (vI (by rw [hwt]; first | done | rfl | (rw [hbc]; first | done | rfl))) (vI (by rw [hwt]; first | done | rfl))) [] (rfl) rfl (trivial)
end Go.Proofs.Ytepahnikcojepaa
