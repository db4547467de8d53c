/- Several texts, one behind the other. -/
import Derived.Test.YtejedjgajcjejaaDoorProg
import Derived.Test.YtejedjgajcjejaaDoorXaa
import Derived.Test.YtejedjgajcjejaaDoorXab
import Derived.Test.YtejedjgajcjejaaDoorXba
/- What these functions of the program hand back, each proved by walking its operations. -/
set_option linter.unusedVariables false
set_option linter.unusedSimpArgs false
set_option maxRecDepth 4000
namespace Go.Proofs.YtejedjgajcjejaaDoor
open Go Go.Sx Go.RowKit Go.W Go.Proofs
attribute [local irreducible] Ex ExL ExD Op1 Free RetQ MutQ Reads CellO SegO LoadsAs
theorem e_90 : Enters Tryd.prog 90 := Enters.of Tryd.func90 rfl
theorem c_slIndexFunc (s : List Int) (hu : ∀ x, x ∈ s → 0 ≤ x ∧ x ≤ 255) (As : Option Addr) (cs : Nat) (hls : s.length ≤ maxLen) (g : FuncId) (cap : List Value) (Pr : World → Prop) (hPr : ∀ w w', Pr w → Below w.heap.size w w' → Pr w') (p : Int → Bool) (hp : ∀ x : Int, 0 ≤ x ∧ x ≤ 255 → Ret Tryd.prog g ([.int .u8 x] ++ cap) Pr (fun _ : Unit => .bool (p x)) (fun _ => []) (fun _ => True)) : Ret Tryd.prog 90 [.slice As s.length cs, .func (.func g) #[] cap.toArray] (fun w => Rd w As (s.flatMap (eI .u8)) ∧ Pr w) (fun x : Unit => .int .i64 (idxF p s)) (fun x => []) (fun x => True) := by
  refine Ret.of e_90 Tryd.func90 rfl Tryd.ntmps90 rfl rfl (fun w hpre => ?_)
  have hs := hpre.1.base
  have hm0 : maxLen = 9223372036854775807 := rfl
  refine Ex.regSeq (ExL.pures 1 rfl ?_)
  refine ExL.nil ?_
  refine Ex.seq ?_
  refine Ex.regSeq (ExL.pures 3 rfl ?_)
  refine ExL.nil ?_
  refine Ex.block ?_
  refine Ex.loopK (X := Nat) (fun k => [(8, .int .i64 k)]) (fun k => []) (fun k => k ≤ s.length ∧ ∀ i, i < k → p (s.getD i 0) = false) (fun k => s.length - k) 0 [(0, _), (1, _), (7, _)] [] 0 [] ⟨rfl, trivial⟩ ⟨rfl, rfl, rfl, trivial⟩ (rfl) rfl ⟨Nat.zero_le _, fun i hi => by omega⟩ (fun k hI => ?_)
  have hI : k ≤ s.length ∧ ∀ i, i < k → p (s.getD i 0) = false := hI
  obtain ⟨hk, hall⟩ := hI
  refine Ex.regSeq (ExL.pures 0 rfl ?_)
  refine ExL.lss rfl rfl rfl rfl rfl rfl (fun h1 => ?_) (fun h1 => ?_)
  · refine ExL.nil ?_
    refine Ex.seq ?_
    refine Ex.cond_t rfl ?_
    refine Ex.skip ?_
    refine Ex.seq ?_
    refine Ex.block ?_
    have hk2 : k < s.length := by omega
    refine Ex.regSeq (ExL.pures 2 rfl ?_)
    refine ExL.nil ?_
    refine Ex.regSeq (ExL.pures 3 rfl ?_)
    refine ExL.free (fr_indexAddrF (Reads.old hs) (eI_len .u8) rfl rfl rfl rfl rfl rfl (by omega)) rfl rfl rfl ?_
    refine ExL.free (fr_load rfl rfl rfl rfl (by first | exact cellN (Reads.old hs) (eI_len .u8) 0 0 rfl (by omega) rfl | exact cellF (Reads.old hs) (eI_len .u8) 0 0 rfl (by omega) rfl)) rfl rfl rfl ?_
    refine ExL.op rfl (op_ret rfl rfl rfl (hp _ (hu _ (getD_mem _ hk2))) (fun w' hw => hPr _ _ hpre.2 hw.below) rfl rfl (fun x2 hx2 => ?_))
    refine ExL.nil ?_
    refine Ex.cond rfl (fun hb3 => ?_) (fun hb3 => ?_)
    · refine Ex.regSeq (ExL.pures 2 rfl ?_)
      refine ExL.nil ?_
      refine Ex.ret ?_
      refine RetQ.mk () rfl (.tmp rfl .nil) (tI (by first | exact (idx_hit (by omega) hall (by assumption)).symm | exact (idx_none (by omega) hall).symm)) [] (rfl) rfl (trivial)
    · refine Ex.skip ?_
      refine Ex.region (ExL.pures 0 rfl ?_)
      refine ExL.free (by first | exact fr_add64 rfl rfl rfl (by omega) | exact fr_add rfl rfl rfl) rfl rfl rfl ?_
      refine ExL.pures 1 rfl ?_
      refine ExL.nil ?_
      refine Hand.mk (k + 1) 0 [] ⟨rfl, trivial⟩ ⟨rfl, rfl, rfl, trivial⟩ (rfl) rfl (⟨by omega, all_snoc hall (by assumption)⟩) (by omega)
  · refine ExL.nil ?_
    refine Ex.seq ?_
    refine Ex.cond_f rfl ?_
    refine Ex.exit ?_
    refine Ex.regSeq (ExL.pures 1 rfl ?_)
    refine ExL.nil ?_
    refine Ex.ret ?_
    refine RetQ.mk () rfl (.tmp rfl .nil) (tI (by first | exact (idx_hit (by omega) hall (by assumption)).symm | exact (idx_none (by omega) hall).symm)) [] (rfl) rfl (trivial)
theorem e_67 : Enters Tryd.prog 67 := Enters.of Tryd.func67 rfl
theorem c_slContainsFunc (s : List Int) (hu : ∀ x, x ∈ s → 0 ≤ x ∧ x ≤ 255) (As : Option Addr) (cs : Nat) (hls : s.length ≤ maxLen) (g : FuncId) (cap : List Value) (Pr : World → Prop) (hPr : ∀ w w', Pr w → Below w.heap.size w w' → Pr w') (p : Int → Bool) (hp : ∀ x : Int, 0 ≤ x ∧ x ≤ 255 → Ret Tryd.prog g ([.int .u8 x] ++ cap) Pr (fun _ : Unit => .bool (p x)) (fun _ => []) (fun _ => True)) : Ret Tryd.prog 67 [.slice As s.length cs, .func (.func g) #[] cap.toArray] (fun w => Rd w As (s.flatMap (eI .u8)) ∧ Pr w) (fun x : Unit => .bool (s.any p)) (fun x => []) (fun x => True) := by
  refine Ret.of e_67 Tryd.func67 rfl Tryd.ntmps67 rfl rfl (fun w hpre => ?_)
  have hs := hpre.1.base
  have hm0 : maxLen = 9223372036854775807 := rfl
  refine Ex.regSeq (ExL.pures 1 rfl ?_)
  refine ExL.nil ?_
  refine Ex.regSeq (ExL.pures 2 rfl ?_)
  refine ExL.op rfl (op_ret rfl rfl rfl (c_slIndexFunc s hu _ _ (by omega) g cap Pr hPr p hp) (fun w' hw => ⟨Reads.get (Reads.old hs) w' hw, hPr _ _ hpre.2 hw.below⟩) rfl rfl (fun x1 hx1 => ?_))
  refine ExL.geq rfl rfl rfl rfl rfl rfl (fun h2 => ?_) (fun h2 => ?_)
  · refine ExL.pures 1 rfl ?_
    refine ExL.nil ?_
    refine Ex.ret ?_
    refine RetQ.mk () rfl (.tmp rfl .nil) (tB (by rw [any_idx]; first | exact dec_t (by omega) | exact dec_f (by omega) | rfl)) [] (rfl) rfl (trivial)
  · refine ExL.pures 1 rfl ?_
    refine ExL.nil ?_
    refine Ex.ret ?_
    refine RetQ.mk () rfl (.tmp rfl .nil) (tB (by rw [any_idx]; first | exact dec_t (by omega) | exact dec_f (by omega) | rfl)) [] (rfl) rfl (trivial)
theorem e_68 : Enters Tryd.prog 68 := Enters.of Tryd.func68 rfl
theorem c_vs1 (y : Int) : Ret Tryd.prog 68 [.int .u8 y] (fun w => True) (fun x : Unit => .bool (decide (y < 2 ∨ 100 < y))) (fun x => []) (fun x => True) := by
  refine Ret.of e_68 Tryd.func68 rfl Tryd.ntmps68 rfl rfl (fun w hpre => ?_)
  refine Ex.regSeq (ExL.pures 1 rfl ?_)
  refine ExL.nil ?_
  refine Ex.regSeq (ExL.pures 1 rfl ?_)
  refine ExL.lss rfl rfl rfl rfl rfl rfl (fun h1 => ?_) (fun h1 => ?_)
  · refine ExL.pures 5 rfl ?_
    refine ExL.nil ?_
    refine Ex.ret ?_
    refine RetQ.mk () rfl (.tmp rfl .nil) (tB (by first | exact dec_t (by omega) | exact dec_f (by omega) | (exact decide_eq_decide.2 (by omega)))) [] (rfl) rfl (trivial)
  · refine ExL.pures 2 rfl ?_
    refine ExL.gtr rfl rfl rfl rfl rfl rfl (fun h2 => ?_) (fun h2 => ?_)
    · refine ExL.pures 2 rfl ?_
      refine ExL.nil ?_
      refine Ex.ret ?_
      refine RetQ.mk () rfl (.tmp rfl .nil) (tB (by first | exact dec_t (by omega) | exact dec_f (by omega) | (exact decide_eq_decide.2 (by omega)))) [] (rfl) rfl (trivial)
    · refine ExL.pures 2 rfl ?_
      refine ExL.nil ?_
      refine Ex.ret ?_
      refine RetQ.mk () rfl (.tmp rfl .nil) (tB (by first | exact dec_t (by omega) | exact dec_f (by omega) | (exact decide_eq_decide.2 (by omega)))) [] (rfl) rfl (trivial)
theorem e_39 : Enters Tryd.prog 39 := Enters.of Tryd.func39 rfl
theorem c_ValidStack (s : List Int) (hu : Nums 255 s) (As : Option Addr) (cs : Nat) (hl : s.length ≤ maxLen) : Ret Tryd.prog 39 [.slice As s.length cs] (fun w => Rd w As (s.flatMap (eI .u8))) (fun x : Unit => .bool (validStack s)) (fun x => []) (fun x => True) := by
  refine Ret.of e_39 Tryd.func39 rfl Tryd.ntmps39 rfl rfl (fun w hpre => ?_)
  have hs := hpre.base
  have hm0 : maxLen = 9223372036854775807 := rfl
  refine Ex.regSeq (ExL.pures 1 rfl ?_)
  refine ExL.nil ?_
  refine Ex.regSeq (ExL.pures 1 rfl ?_)
  refine ExL.op rfl (op_ret rfl rfl rfl (c_wheels _ _ _) (fun _ _ => trivial) rfl rfl (fun x1 hx1 => ?_))
  refine ExL.op rfl (op_ret rfl rfl rfl (c_within _ _ _) (fun _ _ => trivial) rfl rfl (fun x2 hx2 => ?_))
  refine ExL.pures 1 rfl ?_
  refine ExL.bool (d := 7) rfl (fun hb3 => ?_) (fun hb3 => ?_)
  · replace hb3 := of_decide_eq_true hb3
    refine ExL.pures 1 rfl ?_
    refine ExL.op rfl (op_ret rfl rfl rfl (c_slContainsFunc s hu _ _ (by omega) 68 [] (fun _ => True) (fun _ _ _ _ => trivial) (fun x => decide (x < 2 ∨ 100 < x)) (fun x _ => c_vs1 x)) (fun w' hw => ⟨Reads.get (Reads.old hs) w' hw, trivial⟩) rfl rfl (fun x4 hx4 => ?_))
    refine ExL.pures 3 rfl ?_
    refine ExL.nil ?_
    refine Ex.regSeq (ExL.pures 2 rfl ?_)
    refine ExL.bool (d := 13) rfl (fun hb5 => ?_) (fun hb5 => ?_)
    · replace hb5 := nb_t hb5
      refine ExL.pures 1 rfl ?_
      refine ExL.op rfl (op_ret rfl rfl rfl (c_size _ (by assumption) _ _ (by first | assumption | omega | (unfold maxLen; omega))) (Reads.get (Reads.old hs)) rfl rfl (fun x6 hx6 => ?_))
      refine ExL.leq rfl rfl rfl rfl rfl rfl (fun h7 => ?_) (fun h7 => ?_)
      · refine ExL.pures 2 rfl ?_
        refine ExL.nil ?_
        refine Ex.ret ?_
        refine RetQ.mk () rfl (.tmp rfl .nil) (tB (by first | exact vs_len (by assumption) | exact vs_any (by assumption) | exact vs_size (by assumption) | exact vs_yes2 (by assumption) (by assumption) (by assumption))) [] (rfl) rfl (trivial)
      · refine ExL.pures 2 rfl ?_
        refine ExL.nil ?_
        refine Ex.ret ?_
        refine RetQ.mk () rfl (.tmp rfl .nil) (tB (by first | exact vs_len (by assumption) | exact vs_any (by assumption) | exact vs_size (by assumption) | exact vs_yes2 (by assumption) (by assumption) (by assumption))) [] (rfl) rfl (trivial)
    · replace hb5 := nb_f hb5
      refine ExL.pures 5 rfl ?_
      refine ExL.nil ?_
      refine Ex.ret ?_
      refine RetQ.mk () rfl (.tmp rfl .nil) (tB (by first | exact vs_len (by assumption) | exact vs_any (by assumption) | exact vs_size (by assumption) | exact vs_yes2 (by assumption) (by assumption) (by assumption))) [] (rfl) rfl (trivial)
  · replace hb3 := of_decide_eq_false hb3
    refine ExL.pures 5 rfl ?_
    refine ExL.nil ?_
    refine Ex.regSeq (ExL.pures 7 rfl ?_)
    refine ExL.nil ?_
    refine Ex.ret ?_
    refine RetQ.mk () rfl (.tmp rfl .nil) (tB (by first | exact vs_len (by assumption) | exact vs_any (by assumption) | exact vs_size (by assumption) | exact vs_yes2 (by assumption) (by assumption) (by assumption))) [] (rfl) rfl (trivial)
theorem e_82 : Enters Tryd.prog 82 := Enters.of Tryd.func82 rfl
theorem c_iValidDigits (s : List Int) (hu : Nums 255 s) (As : Option Addr) (cs : Nat) (hls : s.length ≤ maxLen) (a : Dig) (ha : Nums 255 a.l) : Ret Tryd.prog 82 [.slice As s.length cs, .agg (encD a).toArray] (fun w => Rd w As (s.flatMap (eI .u8))) (fun x : Unit => .bool (validStack s && validDig s a.l)) (fun x => []) (fun x => True) := by
  refine Ret.of e_82 Tryd.func82 rfl Tryd.ntmps82 rfl rfl (fun w hpre => ?_)
  have hs := hpre.base
  have hm0 : maxLen = 9223372036854775807 := rfl
  refine Ex.regSeq (ExL.pures 0 rfl ?_)
  refine ExL.op rfl (op_box rfl rfl rfl rfl rfl (fun b1 => ?_))
  refine ExL.pures 1 rfl ?_
  refine ExL.nil ?_
  refine Ex.seq ?_
  refine Ex.regSeq (ExL.pures 1 rfl ?_)
  refine ExL.op rfl (op_ret rfl rfl rfl (c_ValidStack _ (by assumption) _ _ (by first | assumption | omega | (unfold maxLen; omega))) (Reads.get (Reads.old hs)) rfl rfl (fun x2 hx2 => ?_))
  refine ExL.pures 1 rfl ?_
  refine ExL.nil ?_
  refine Ex.cond rfl (fun hb3 => ?_) (fun hb3 => ?_)
  · replace hb3 := nb_t hb3
    refine Ex.regSeq (ExL.pures 1 rfl ?_)
    refine ExL.nil ?_
    refine Ex.ret ?_
    refine RetQ.mk () rfl (.tmp rfl .nil) (tB (by first | (rw [(by assumption : validStack s = false)]; rfl) | (rw [(by assumption : validStack s = true), Bool.true_and]; first | exact good_all (by omega) hall | exact bad_lo (k := k) (by omega) (by omega) (by assumption) | exact bad_hi (k := k) (by omega) (by omega) (by omega)))) [] (rfl) rfl (trivial)
  · replace hb3 := nb_f hb3
    refine Ex.skip ?_
    refine Ex.seq ?_
    refine Ex.regSeq (ExL.pures 0 rfl ?_)
    refine ExL.free (fr_loadN rfl rfl rfl rfl rfl (SegO.whole (i := 0) rfl)) rfl rfl rfl ?_
    refine ExL.pures 1 rfl ?_
    refine ExL.nil ?_
    refine Ex.block ?_
    refine Ex.loopK (X := Nat) (fun k => [(11, .int .i64 k)]) (fun k => []) (fun k => k ≤ 8 ∧ ∀ i, i < k → goodAt s a.l i = true) (fun k => 8 - k) 0 [(0, _), (10, _)] [] 1 [] ⟨rfl, trivial⟩ ⟨rfl, rfl, trivial⟩ (rfl) rfl ⟨Nat.zero_le _, fun i hi => by omega⟩ (fun k hI => ?_)
    have hI : k ≤ 8 ∧ ∀ i, i < k → goodAt s a.l i = true := hI
    obtain ⟨hk, hall⟩ := hI
    have hb := ha.at_ (by omega) k
    refine Ex.regSeq (ExL.pures 0 rfl ?_)
    refine ExL.lss rfl rfl rfl rfl rfl rfl (fun h4 => ?_) (fun h4 => ?_)
    · refine ExL.nil ?_
      refine Ex.seq ?_
      refine Ex.cond_t rfl ?_
      refine Ex.skip ?_
      refine Ex.seq ?_
      refine Ex.block ?_
      refine Ex.regSeq (ExL.pures 1 rfl ?_)
      refine ExL.free (fr_index (sz := 1) rfl rfl rfl rfl rfl rfl rfl (by omega) (idxG (eI_len .u8) 0 rfl (by rw [dig_len]; omega) rfl)) rfl rfl rfl ?_
      refine ExL.pures 2 rfl ?_
      refine ExL.nil ?_
      refine Ex.regSeq (ExL.pures 3 rfl ?_)
      refine ExL.lss rfl rfl rfl rfl rfl rfl (fun h5 => ?_) (fun h5 => ?_)
      · refine ExL.pures 4 rfl ?_
        refine ExL.free (fr_indexAddrF (Reads.old hs) (eI_len .u8) rfl rfl rfl rfl rfl rfl (by omega)) rfl rfl rfl ?_
        refine ExL.free (fr_load rfl rfl rfl rfl (by first | exact cellN (Reads.old hs) (eI_len .u8) 0 0 rfl (by omega) rfl | exact cellF (Reads.old hs) (eI_len .u8) 0 0 rfl (by omega) rfl)) rfl rfl rfl ?_
        refine ExL.geq rfl rfl rfl rfl rfl rfl (fun h6 => ?_) (fun h6 => ?_)
        · refine ExL.pures 11 rfl ?_
          refine ExL.nil ?_
          refine Ex.cond_t rfl ?_
          refine Ex.regSeq (ExL.pures 1 rfl ?_)
          refine ExL.nil ?_
          refine Ex.ret ?_
          refine RetQ.mk () rfl (.tmp rfl .nil) (tB (by first | (rw [(by assumption : validStack s = false)]; rfl) | (rw [(by assumption : validStack s = true), Bool.true_and]; first | exact good_all (by omega) hall | exact bad_lo (k := k) (by omega) (by omega) (by assumption) | exact bad_hi (k := k) (by omega) (by omega) (by omega)))) [] (rfl) rfl (trivial)
        · refine ExL.pures 5 rfl ?_
          refine ExL.geq rfl rfl rfl rfl rfl rfl (fun h7 => ?_) (fun h7 => ?_)
          · refine ExL.pures 2 rfl ?_
            refine ExL.gtr rfl rfl rfl rfl rfl rfl (fun h8 => ?_) (fun h8 => ?_)
            · refine ExL.pures 2 rfl ?_
              refine ExL.nil ?_
              refine Ex.cond_t rfl ?_
              refine Ex.regSeq (ExL.pures 1 rfl ?_)
              refine ExL.nil ?_
              refine Ex.ret ?_
              refine RetQ.mk () rfl (.tmp rfl .nil) (tB (by first | (rw [(by assumption : validStack s = false)]; rfl) | (rw [(by assumption : validStack s = true), Bool.true_and]; first | exact good_all (by omega) hall | exact bad_lo (k := k) (by omega) (by omega) (by assumption) | exact bad_hi (k := k) (by omega) (by omega) (by omega)))) [] (rfl) rfl (trivial)
            · refine ExL.pures 2 rfl ?_
              refine ExL.nil ?_
              refine Ex.cond_f rfl ?_
              refine Ex.skip ?_
              refine Ex.region (ExL.pures 0 rfl ?_)
              refine ExL.free (by first | exact fr_add64 rfl rfl rfl (by omega) | exact fr_add rfl rfl rfl) rfl rfl rfl ?_
              refine ExL.pures 1 rfl ?_
              refine ExL.nil ?_
              refine Hand.mk (k + 1) 0 [] ⟨rfl, trivial⟩ ⟨rfl, rfl, trivial⟩ (rfl) rfl (⟨by omega, all_snoc hall (by first | exact good_lo (by omega) (by first | assumption | omega) | exact good_hi (by omega) (by omega))⟩) (by omega)
          · refine ExL.pures 5 rfl ?_
            refine ExL.nil ?_
            refine Ex.cond_f rfl ?_
            refine Ex.skip ?_
            refine Ex.region (ExL.pures 0 rfl ?_)
            refine ExL.free (by first | exact fr_add64 rfl rfl rfl (by omega) | exact fr_add rfl rfl rfl) rfl rfl rfl ?_
            refine ExL.pures 1 rfl ?_
            refine ExL.nil ?_
            refine Hand.mk (k + 1) 0 [] ⟨rfl, trivial⟩ ⟨rfl, rfl, trivial⟩ (rfl) rfl (⟨by omega, all_snoc hall (by first | exact good_lo (by omega) (by first | assumption | omega) | exact good_hi (by omega) (by omega))⟩) (by omega)
      · refine ExL.pures 12 rfl ?_
        refine ExL.geq rfl rfl rfl rfl rfl rfl (fun h9 => ?_) (fun h9 => ?_)
        · refine ExL.pures 2 rfl ?_
          refine ExL.gtr rfl rfl rfl rfl rfl rfl (fun h10 => ?_) (fun h10 => ?_)
          · refine ExL.pures 2 rfl ?_
            refine ExL.nil ?_
            refine Ex.cond_t rfl ?_
            refine Ex.regSeq (ExL.pures 1 rfl ?_)
            refine ExL.nil ?_
            refine Ex.ret ?_
            refine RetQ.mk () rfl (.tmp rfl .nil) (tB (by first | (rw [(by assumption : validStack s = false)]; rfl) | (rw [(by assumption : validStack s = true), Bool.true_and]; first | exact good_all (by omega) hall | exact bad_lo (k := k) (by omega) (by omega) (by assumption) | exact bad_hi (k := k) (by omega) (by omega) (by omega)))) [] (rfl) rfl (trivial)
          · refine ExL.pures 2 rfl ?_
            refine ExL.nil ?_
            refine Ex.cond_f rfl ?_
            refine Ex.skip ?_
            refine Ex.region (ExL.pures 0 rfl ?_)
            refine ExL.free (by first | exact fr_add64 rfl rfl rfl (by omega) | exact fr_add rfl rfl rfl) rfl rfl rfl ?_
            refine ExL.pures 1 rfl ?_
            refine ExL.nil ?_
            refine Hand.mk (k + 1) 0 [] ⟨rfl, trivial⟩ ⟨rfl, rfl, trivial⟩ (rfl) rfl (⟨by omega, all_snoc hall (by first | exact good_lo (by omega) (by first | assumption | omega) | exact good_hi (by omega) (by omega))⟩) (by omega)
        · refine ExL.pures 5 rfl ?_
          refine ExL.nil ?_
          refine Ex.cond_f rfl ?_
          refine Ex.skip ?_
          refine Ex.region (ExL.pures 0 rfl ?_)
          refine ExL.free (by first | exact fr_add64 rfl rfl rfl (by omega) | exact fr_add rfl rfl rfl) rfl rfl rfl ?_
          refine ExL.pures 1 rfl ?_
          refine ExL.nil ?_
          refine Hand.mk (k + 1) 0 [] ⟨rfl, trivial⟩ ⟨rfl, rfl, trivial⟩ (rfl) rfl (⟨by omega, all_snoc hall (by first | exact good_lo (by omega) (by first | assumption | omega) | exact good_hi (by omega) (by omega))⟩) (by omega)
    · refine ExL.nil ?_
      refine Ex.seq ?_
      refine Ex.cond_f rfl ?_
      refine Ex.exit ?_
      refine Ex.regSeq (ExL.pures 1 rfl ?_)
      refine ExL.nil ?_
      refine Ex.ret ?_
      refine RetQ.mk () rfl (.tmp rfl .nil) (tB (by first | (rw [(by assumption : validStack s = false)]; rfl) | (rw [(by assumption : validStack s = true), Bool.true_and]; first | exact good_all (by omega) hall | exact bad_lo (k := k) (by omega) (by omega) (by assumption) | exact bad_hi (k := k) (by omega) (by omega) (by omega)))) [] (rfl) rfl (trivial)
end Go.Proofs.YtejedjgajcjejaaDoor

/- What these functions of the program hand back, each proved by walking its operations. -/
set_option linter.unusedVariables false
set_option linter.unusedSimpArgs false
set_option maxRecDepth 4000
namespace Go.Proofs.YtejedjgajcjejaaDoor
open Go Go.Sx Go.RowKit Go.W Go.Proofs
attribute [local irreducible] Ex ExL ExD Op1 Free RetQ MutQ Reads CellO SegO LoadsAs
theorem e_95 : Enters Tryd.prog 95 := Enters.of Tryd.func95 rfl
theorem c_back1 (s : List Int) (As : Option Addr) (cs : Nat) (hls : s.length ≤ maxLen) (b base : Nat) (w0 : World) (hs : RdB base w0 As (s.flatMap (eI .u8))) : Iter Tryd.prog 95 [.pointer (some ⟨b, 0, none⟩)] base w0 (.blk b [.slice As s.length cs] 41) s.length (fun k => [.int .i64 ((s.length - 1 - k : Nat) : Int), .int .u8 (s.getD (s.length - 1 - k) 0)]) := by
  refine Iter.of e_95 Tryd.func95 rfl Tryd.ntmps95 rfl rfl (fun w1 l Mf hW hY => ?_)
  have hs := hs.keep hW
  have hm0 : maxLen = 9223372036854775807 := rfl
  refine Ex.regSeq (ExL.pures 0 rfl ?_)
  refine ExL.free (fr_load rfl rfl rfl rfl (CellO.blk (i := 0) rfl rfl)) rfl rfl rfl ?_
  refine ExL.pures 1 rfl ?_
  refine ExL.free (fr_sub64 rfl rfl rfl (by omega)) rfl rfl rfl ?_
  refine ExL.pures 1 rfl ?_
  refine ExL.nil ?_
  refine Ex.block ?_
  refine Ex.loopK (X := Nat) (fun k => [(3, .int .i64 ((s.length : Int) - 1 - k))]) (fun k => .blk b [.slice As s.length cs] 41 :: Mf k) (fun k => k ≤ s.length) (fun k => s.length - k) 0 [(0, _), (1, _)] [] 1 [0] ⟨agI (by simp), trivial⟩ ⟨rfl, rfl, trivial⟩ pick_box rfl (Nat.zero_le _) (fun k hI => ?_)
  refine Ex.seq ?_
  refine Ex.regSeq (ExL.pures 1 rfl ?_)
  refine ExL.geq rfl rfl rfl rfl rfl rfl (fun h1 => ?_) (fun h1 => ?_)
  · have hk : k < s.length := by omega
    have hj : (s.length : Int) - 1 - k = ((s.length - 1 - k : Nat) : Int) := by omega
    rw [hj]
    refine ExL.nil ?_
    refine Ex.cond_t rfl ?_
    refine Ex.skip ?_
    refine Ex.seq ?_
    refine Ex.block ?_
    refine Ex.regSeq (ExL.pures 2 rfl ?_)
    refine ExL.free (fr_load rfl rfl rfl rfl (CellO.blk (i := 0) rfl rfl)) rfl rfl rfl ?_
    refine ExL.pures 1 rfl ?_
    refine ExL.free (fr_indexAddrF (Reads.old hs) (eI_len .u8) rfl rfl rfl rfl rfl rfl (by omega)) rfl rfl rfl ?_
    refine ExL.free (fr_load rfl rfl rfl rfl (cellN (Reads.old hs) (eI_len .u8) 0 0 rfl (by omega) rfl)) rfl rfl rfl ?_
    refine ExL.yield rfl rfl rfl rfl rfl rfl (fun w hw => hY k w hk (by simpa using hw)) ?_
    refine ExL.pures 1 rfl ?_
    refine ExL.nil ?_
    refine Ex.cond_f rfl ?_
    refine Ex.skip ?_
    refine Ex.region (ExL.pures 1 rfl ?_)
    refine ExL.free (fr_sub64 rfl rfl rfl (by omega)) rfl rfl rfl ?_
    refine ExL.pures 1 rfl ?_
    refine ExL.nil ?_
    exact Hand.mk (k + 1) 1 [0] ⟨agI (by omega), trivial⟩ ⟨rfl, rfl, trivial⟩ pick_box rfl (by omega) (by omega)
  · refine ExL.nil ?_
    refine Ex.cond_f rfl ?_
    refine Ex.exit ?_
    obtain rfl : k = s.length := (by omega)
    exact ⟨rfl, by simp⟩
theorem e_74 : Enters Tryd.prog 74 := Enters.of Tryd.func74 rfl
theorem c_Back (s : List Int) (As : Option Addr) (cs : Nat) : Ret Tryd.prog 74 [.slice As s.length cs] (fun w => True) (fun x : Nat => .func (.func 95) #[] (List.toArray [.pointer (some ⟨x, 0, none⟩)])) (fun x => [.blk x [.slice As s.length cs] 41]) (fun x => True) := by
  refine Ret.of e_74 Tryd.func74 rfl Tryd.ntmps74 rfl rfl (fun w hpre => ?_)
  refine Ex.regSeq (ExL.pures 0 rfl ?_)
  refine ExL.op rfl (op_box rfl rfl rfl rfl rfl (fun b1 => ?_))
  refine ExL.pures 1 rfl ?_
  refine ExL.nil ?_
  refine Ex.regSeq (ExL.pures 0 rfl ?_)
  refine ExL.free (fr_makeFunc rfl rfl rfl) rfl rfl rfl ?_
  refine ExL.pures 1 rfl ?_
  refine ExL.nil ?_
  refine Ex.ret ?_
  refine RetQ.mk _ rfl (.tmp rfl .nil) (rfl) [0] (rfl) rfl (trivial)
end Go.Proofs.YtejedjgajcjejaaDoor

/- What these functions of the program hand back, each proved by walking its operations. -/
set_option linter.unusedVariables false
set_option linter.unusedSimpArgs false
set_option maxRecDepth 4000
namespace Go.Proofs.YtejedjgajcjejaaDoor
open Go Go.Sx Go.RowKit Go.W Go.Proofs
attribute [local irreducible] Ex ExL ExD Op1 Free RetQ MutQ Reads CellO SegO LoadsAs
theorem c_back1X (s : List Int) (As : Option Addr) (cs : Nat) (hls : s.length ≤ maxLen) (b base : Nat) (w0 : World) (hs : RdB base w0 As (s.flatMap (eI .u8))) : IterX Tryd.prog 95 [.pointer (some ⟨b, 0, none⟩)] base w0 (.blk b [.slice As s.length cs] 41) s.length (fun k => [.int .i64 ((s.length - 1 - k : Nat) : Int), .int .u8 (s.getD (s.length - 1 - k) 0)]) := by
  refine IterX.of e_95 Tryd.func95 rfl Tryd.ntmps95 rfl rfl (fun w1 l Sf m0 hW hY h0 => ?_)
  have hs := hs.keep hW
  have hm0 : maxLen = 9223372036854775807 := rfl
  refine Ex.regSeq (ExL.pures 0 rfl ?_)
  refine ExL.free (fr_load rfl rfl rfl rfl (CellO.blk (i := 0) rfl rfl)) rfl rfl rfl ?_
  refine ExL.pures 1 rfl ?_
  refine ExL.free (fr_sub64 rfl rfl rfl (by omega)) rfl rfl rfl ?_
  refine ExL.pures 1 rfl ?_
  refine ExL.nil ?_
  refine Ex.block ?_
  refine Ex.loopK (X := Nat × List Ent) (fun x => [(3, .int .i64 ((s.length : Int) - 1 - x.1))]) (fun x => .blk b [.slice As s.length cs] 41 :: x.2) (fun x => x.1 ≤ s.length ∧ Sf x.1 x.2) (fun x => s.length - x.1) (0, m0) [(0, _), (1, _)] [] 1 [0] ⟨agI (by simp), trivial⟩ ⟨rfl, rfl, trivial⟩ pick_box rfl ⟨Nat.zero_le _, h0⟩ (fun x hI => ?_)
  obtain ⟨hI, hS⟩ : x.1 ≤ s.length ∧ Sf x.1 x.2 := hI
  refine Ex.seq ?_
  refine Ex.regSeq (ExL.pures 1 rfl ?_)
  refine ExL.geq rfl rfl rfl rfl rfl rfl (fun h1 => ?_) (fun h1 => ?_)
  · have hk : x.1 < s.length := by omega
    have hj : (s.length : Int) - 1 - x.1 = ((s.length - 1 - x.1 : Nat) : Int) := by omega
    rw [hj]
    refine ExL.nil ?_
    refine Ex.cond_t rfl ?_
    refine Ex.skip ?_
    refine Ex.seq ?_
    refine Ex.block ?_
    refine Ex.regSeq (ExL.pures 2 rfl ?_)
    refine ExL.free (fr_load rfl rfl rfl rfl (CellO.blk (i := 0) rfl rfl)) rfl rfl rfl ?_
    refine ExL.pures 1 rfl ?_
    refine ExL.free (fr_indexAddrF (Reads.old hs) (eI_len .u8) rfl rfl rfl rfl rfl rfl (by omega)) rfl rfl rfl ?_
    refine ExL.free (fr_load rfl rfl rfl rfl (cellN (Reads.old hs) (eI_len .u8) 0 0 rfl (by omega) rfl)) rfl rfl rfl ?_
    refine ExL.yieldX rfl rfl rfl rfl rfl rfl (fun w hw => hY x.1 w x.2 hk hS (by simpa using hw)) ?_
    rintro _ ⟨mk, hS2, rfl⟩
    refine ExL.pures 1 rfl ?_
    refine ExL.nil ?_
    refine Ex.cond_f rfl ?_
    refine Ex.skip ?_
    refine Ex.region (ExL.pures 1 rfl ?_)
    refine ExL.free (fr_sub64 rfl rfl rfl (by omega)) rfl rfl rfl ?_
    refine ExL.pures 1 rfl ?_
    refine ExL.nil ?_
    exact Hand.mk (x.1 + 1, mk) 1 [0] ⟨agI (by show ((s.length - 1 - x.1 : Nat) : Int) - 1 = (s.length : Int) - 1 - ((x.1 + 1 : Nat) : Int); omega), trivial⟩ ⟨rfl, rfl, trivial⟩ pick_box rfl ⟨by dsimp only; omega, hS2⟩ (by dsimp only; omega)
  · refine ExL.nil ?_
    refine Ex.cond_f rfl ?_
    refine Ex.exit ?_
    have hk : x.1 = s.length := by omega
    exact ⟨rfl, x.2, hk ▸ hS, by simp⟩
theorem e_78 : Enters Tryd.prog 78 := Enters.of Tryd.func78 rfl
theorem c_Join (xs : List (List UInt8)) (n : Nat) (hn : xs.length = n) (A : Option Addr) (c : Nat) (sep : List UInt8) (hc : n ≤ c) (hl : xs.length ≤ 140737488355328) (hj : (Lib.join xs sep).length ≤ 140737488355328) : Ret Tryd.prog 78 [.slice A n c, sv sep] (fun w => Rd w A (xs.flatMap eSt)) (fun _ : Unit => sv (Lib.join xs sep)) (fun _ => []) (fun _ => True) := by
  subst hn
  refine ⟨e_78, fun w hr => ?_⟩
  rcases Nat.eq_zero_or_pos xs.length with h | h
  · obtain rfl := List.eq_nil_of_length_eq_zero h
    exact (Go.Proofs.Tryd.strings_Join_none A c (mkB sep) w).mono (by rintro e w' ⟨rfl, rfl⟩; exact ⟨(), trivial, rfl, Below.refl _ _, by simp, List.Pairwise.nil⟩)
  · obtain ⟨bk, o, rfl, hb, hcs⟩ := join_pre hr h
    have h1 := Go.Proofs.Tryd.strings_Join bk o c (xs.map mkB) (mkB sep) w hcs hb (by simpa using hl) (by simpa using hc) (by rw [mkB_map]; exact hj)
    rw [mkB_map, List.length_map] at h1
    exact h1.mono (by rintro e w' ⟨rfl, hbl⟩; exact ⟨(), trivial, rfl, hbl, by simp, List.Pairwise.nil⟩)
theorem e_120 : Enters Tryd.prog 120 := Enters.of Tryd.func120 rfl
theorem c_Repeat (l : List UInt8) (c : Int) (hc : c = 0 ∨ c = 1) : Ret Tryd.prog 120 [sv l, .int .i64 c] (fun _ => True) (fun _ : Unit => sv (if c = 1 then l else [])) (fun _ => []) (fun _ => True) := by
  refine ⟨e_120, fun w _ => ?_⟩
  rcases hc with rfl | rfl
  · exact (Go.Proofs.Tryd.strings_Repeat_zero (mkB l) w).mono (by rintro e w' ⟨rfl, rfl⟩; exact ⟨(), trivial, rfl, Below.refl _ _, by simp, List.Pairwise.nil⟩)
  · exact (Go.Proofs.Tryd.strings_Repeat_one (mkB l) w).mono (by rintro e w' ⟨rfl, rfl⟩; exact ⟨(), trivial, rfl, Below.refl _ _, by simp, List.Pairwise.nil⟩)
theorem e_107 : Enters Tryd.prog 107 := Enters.of Tryd.func107 rfl
theorem c_padded (n d : Int) (hn : 0 ≤ n ∧ n ≤ 1000) (hd : 0 ≤ d ∧ d ≤ ((Lib.itoa n).length : Int) + 1) : Ret Tryd.prog 107 [.int .i64 n, .int .i64 d] (fun w => TabO Tryd.prog w) (fun x : Unit => sv (padT n d)) (fun x => []) (fun x => True) := by
  refine Ret.of e_107 Tryd.func107 rfl Tryd.ntmps107 rfl rfl (fun w hpre => ?_)
  have htab := hpre
  have hil := itoa_le (n := n) (by omega)
  refine Ex.regSeq (ExL.pures 1 rfl ?_)
  refine ExL.nil ?_
  refine Ex.regSeq (ExL.pures 1 rfl ?_)
  refine ExL.op rfl (op_ret rfl rfl rfl (c_decimal n (by omega)) (fun w hw => TabO.keep htab hw) rfl rfl (fun x1 hx1 => ?_))
  refine ExL.pures 1 rfl ?_
  refine ExL.nil ?_
  have hif : (if max 0 (d - ((Lib.itoa n).length : Int)) = 1 then [48] else ([] : List UInt8)).length ≤ 1 := by split <;> simp
  refine Ex.regSeq (ExL.pures 2 rfl ?_)
  refine ExL.free (fr_lenS (l := Lib.itoa n) rfl rfl rfl) rfl rfl rfl ?_
  refine ExL.free (by first | exact fr_sub64 rfl rfl rfl (by omega) | exact fr_sub rfl rfl rfl) rfl rfl rfl ?_
  refine ExL.free (fr_max rfl rfl rfl) rfl rfl rfl ?_
  refine ExL.op rfl (op_ret rfl rfl rfl (c_Repeat [48] (max 0 (d - ((Lib.itoa n).length : Int))) (by omega)) (fun _ _ => trivial) rfl rfl (fun x2 hx2 => ?_))
  refine ExL.pures 1 rfl ?_
  refine ExL.free (fr_addS (l := (if (max 0 (d - ((Lib.itoa n).length : Int))) = 1 then [48] else [])) (r := Lib.itoa n) rfl rfl rfl (by first | omega | (simp only [List.length_append, List.length_cons, List.length_nil]; omega))) rfl rfl rfl ?_
  refine ExL.pures 1 rfl ?_
  refine ExL.nil ?_
  refine Ex.ret ?_
  refine RetQ.mk () rfl (.tmp rfl .nil) (rfl) [] (rfl) rfl (trivial)
end Go.Proofs.YtejedjgajcjejaaDoor

/- What these functions of the program hand back, each proved by walking its operations. -/
set_option linter.unusedVariables false
set_option linter.unusedSimpArgs false
set_option maxRecDepth 4000
namespace Go.Proofs.YtejedjgajcjejaaDoor
open Go Go.Sx Go.RowKit Go.W Go.Proofs
attribute [local irreducible] Ex ExL ExD Op1 Free RetQ MutQ Reads CellO SegO LoadsAs
theorem e_97 : Enters Tryd.prog 97 := Enters.of Tryd.func97 rfl
theorem c_has (m : VMk) (hm : OkMk m) (d : Int) (hd : 0 ≤ d ∧ d ≤ 127) : Ret Tryd.prog 97 [.agg (encMk m).toArray, .int .i64 d] (fun w => True) (fun x : Unit => .bool (hasM m d.toNat)) (fun x => []) (fun x => True) := by
  refine Ret.of e_97 Tryd.func97 rfl Tryd.ntmps97 rfl rfl (fun w hpre => ?_)
  obtain ⟨d, rfl⟩ := Int.eq_ofNat_of_zero_le hd.1
  refine Ex.regSeq (ExL.pures 0 rfl ?_)
  refine ExL.op rfl (op_box rfl rfl rfl rfl rfl (fun b1 => ?_))
  refine ExL.pures 1 rfl ?_
  refine ExL.nil ?_
  refine Ex.regSeq (ExL.pures 1 rfl ?_)
  refine ExL.free (fr_quoW ((d / 64 : Nat) : Int) rfl rfl rfl (by omega) (quo64 (by omega))) rfl rfl rfl ?_
  refine ExL.free (fr_indexAddr_b (sz := 1) rfl rfl rfl rfl rfl (by omega)) rfl rfl rfl ?_
  refine ExL.free (fr_load rfl rfl rfl rfl (CellO.blk (i := 0) rfl (blkG (eI_len .u64) 0 rfl (by rw [mk_len]; omega) rfl))) rfl rfl rfl ?_
  refine ExL.pures 1 rfl ?_
  refine ExL.free (by first | exact fr_remP rfl rfl rfl (by omega) | exact fr_rem rfl rfl rfl (by omega)) rfl rfl rfl ?_
  refine ExL.free (fr_shr rfl rfl rfl (by omega)) rfl rfl rfl ?_
  refine ExL.free (by first | exact fr_and255 rfl rfl rfl (by omega) | exact fr_bits rfl rfl rfl (by simp)) rfl rfl rfl ?_
  refine ExL.free (fr_eql rfl rfl rfl) rfl rfl rfl ?_
  refine ExL.pures 1 rfl ?_
  refine ExL.nil ?_
  refine Ex.ret ?_
  refine RetQ.mk () rfl (.tmp rfl .nil) (tB (by first | exact has_dec hm (by omega) | (exfalso; omega))) [] (rfl) rfl (trivial)
theorem e_65 : Enters Tryd.prog 65 := Enters.of Tryd.func65 rfl
theorem c_l05Put (m : VMk) (hm : OkMk m) (d : Int) (hd : 0 ≤ d ∧ d ≤ 127) : Ret Tryd.prog 65 [.agg (encMk m).toArray, .int .i64 d] (fun w => True) (fun x : Unit => .agg (encMk (putM m d.toNat)).toArray) (fun x => []) (fun x => True) := by
  refine Ret.of e_65 Tryd.func65 rfl Tryd.ntmps65 rfl rfl (fun w hpre => ?_)
  obtain ⟨d, rfl⟩ := Int.eq_ofNat_of_zero_le hd.1
  refine Ex.regSeq (ExL.pures 0 rfl ?_)
  refine ExL.op rfl (op_box rfl rfl rfl rfl rfl (fun b1 => ?_))
  refine ExL.op rfl (op_alloc rfl rfl rfl rfl rfl (fun b2 => ?_))
  refine ExL.nil ?_
  refine Ex.regSeq (ExL.pures 1 rfl ?_)
  refine ExL.free (fr_quoW ((d / 64 : Nat) : Int) rfl rfl rfl (by omega) (quo64 (by omega))) rfl rfl rfl ?_
  refine ExL.free (fr_indexAddr_b (sz := 1) rfl rfl rfl rfl rfl (by omega)) rfl rfl rfl ?_
  refine ExL.free (fr_load rfl rfl rfl rfl (CellO.blk (i := 1) rfl (blkG (eI_len .u64) 0 rfl (by rw [mk_len]; omega) rfl))) rfl rfl rfl ?_
  refine ExL.pures 1 rfl ?_
  refine ExL.free (by first | exact fr_remP rfl rfl rfl (by omega) | exact fr_rem rfl rfl rfl (by omega)) rfl rfl rfl ?_
  refine ExL.free (by first | exact fr_conv_u64 rfl rfl rfl rfl (by omega) | exact fr_conv rfl rfl rfl rfl) rfl rfl rfl ?_
  refine ExL.free (fr_shl rfl rfl rfl (by omega)) rfl rfl rfl ?_
  refine ExL.free (by first | exact fr_and255 rfl rfl rfl (by omega) | exact fr_bits rfl rfl rfl (by simp)) rfl rfl rfl ?_
  refine ExL.free (fr_indexAddr_b (sz := 1) rfl rfl rfl rfl rfl (by omega)) rfl rfl rfl ?_
  refine ExL.op rfl (op_store (i := 1) rfl rfl rfl rfl rfl rfl rfl rfl (room (eI_len .u64) (k := (↑(d / 64) : Int).toNat) (by rw [mk_len]; omega) (by simp) rfl) rfl ?_)
  refine ExL.nil ?_
  rw [put_walk hm (by omega)]
  refine Ex.regSeq (ExL.pures 0 rfl ?_)
  refine ExL.free (fr_loadN rfl rfl rfl rfl rfl (SegO.whole (i := 1) rfl)) rfl rfl rfl ?_
  refine ExL.op rfl (op_storeC (i := 0) rfl rfl rfl rfl rfl rfl rfl rfl rfl rfl ?_)
  refine ExL.nil ?_
  refine Ex.ret ?_
  refine RetQ.mk () rfl (.cell rfl (.many rfl rfl rfl (SegO.whole (i := 0) rfl)) .nil) (rfl) [] (rfl) rfl (trivial)
theorem e_72 : Enters Tryd.prog 72 := Enters.of Tryd.func72 rfl
theorem c_with (m : VMk) (hm : OkMk m) (d : Int) (hd : 0 ≤ d ∧ d ≤ 127) : Ret Tryd.prog 72 [.agg (encMk m).toArray, .int .i64 d, .bool true] (fun w => True) (fun x : Unit => .agg (encMk (putM m d.toNat)).toArray) (fun x => []) (fun x => True) := by
  refine Ret.of e_72 Tryd.func72 rfl Tryd.ntmps72 rfl rfl (fun w hpre => ?_)
  obtain ⟨d, rfl⟩ := Int.eq_ofNat_of_zero_le hd.1
  refine Ex.regSeq (ExL.pures 0 rfl ?_)
  refine ExL.op rfl (op_box rfl rfl rfl rfl rfl (fun b1 => ?_))
  refine ExL.op rfl (op_alloc rfl rfl rfl rfl rfl (fun b2 => ?_))
  refine ExL.nil ?_
  refine Ex.regSeq (ExL.pures 1 rfl ?_)
  refine ExL.free (by first | exact fr_remP rfl rfl rfl (by omega) | exact fr_rem rfl rfl rfl (by omega)) rfl rfl rfl ?_
  refine ExL.free (fr_shl rfl rfl rfl (by omega)) rfl rfl rfl ?_
  refine ExL.pures 1 rfl ?_
  refine ExL.nil ?_
  refine Ex.seq ?_
  refine Ex.regSeq (ExL.pures 1 rfl ?_)
  refine ExL.nil ?_
  refine Ex.cond_t rfl ?_
  refine Ex.region (ExL.pures 1 rfl ?_)
  refine ExL.free (fr_quoW ((d / 64 : Nat) : Int) rfl rfl rfl (by omega) (quo64 (by omega))) rfl rfl rfl ?_
  refine ExL.free (fr_indexAddr_b (sz := 1) rfl rfl rfl rfl rfl (by omega)) rfl rfl rfl ?_
  refine ExL.free (fr_load rfl rfl rfl rfl (CellO.blk (i := 1) rfl (blkG (eI_len .u64) 0 rfl (by rw [mk_len]; omega) rfl))) rfl rfl rfl ?_
  refine ExL.pures 1 rfl ?_
  refine ExL.free (by first | exact fr_and255 rfl rfl rfl (by omega) | exact fr_bits rfl rfl rfl (by simp)) rfl rfl rfl ?_
  refine ExL.free (fr_indexAddr_b (sz := 1) rfl rfl rfl rfl rfl (by omega)) rfl rfl rfl ?_
  refine ExL.op rfl (op_store (i := 1) rfl rfl rfl rfl rfl rfl rfl rfl (room (eI_len .u64) (k := (↑(d / 64) : Int).toNat) (by rw [mk_len]; omega) (by simp) rfl) rfl ?_)
  refine ExL.nil ?_
  rw [put_walk hm (by omega)]
  refine Ex.regSeq (ExL.pures 0 rfl ?_)
  refine ExL.free (fr_loadN rfl rfl rfl rfl rfl (SegO.whole (i := 1) rfl)) rfl rfl rfl ?_
  refine ExL.op rfl (op_storeC (i := 0) rfl rfl rfl rfl rfl rfl rfl rfl rfl rfl ?_)
  refine ExL.nil ?_
  refine Ex.ret ?_
  refine RetQ.mk () rfl (.cell rfl (.many rfl rfl rfl (SegO.whole (i := 0) rfl)) .nil) (rfl) [] (rfl) rfl (trivial)
theorem e_71 : Enters Tryd.prog 71 := Enters.of Tryd.func71 rfl
theorem c_below (b : Int) (hb : 0 ≤ b ∧ b ≤ 128) : Ret Tryd.prog 71 [.int .i64 b] (fun w => True) (fun x : Unit => .agg (encMk (fullM b.toNat)).toArray) (fun x => []) (fun x => True) := by
  refine Ret.of e_71 Tryd.func71 rfl Tryd.ntmps71 rfl rfl (fun w hpre => ?_)
  refine Ex.regSeq (ExL.pures 0 rfl ?_)
  refine ExL.op rfl (op_alloc rfl rfl rfl rfl rfl (fun b1 => ?_))
  refine ExL.nil ?_
  refine Ex.regSeq (ExL.pures 0 rfl ?_)
  refine ExL.free (fr_build rfl rfl rfl rfl) rfl rfl rfl ?_
  refine ExL.op rfl (op_alloc rfl rfl rfl rfl rfl (fun b2 => ?_))
  refine ExL.op rfl (op_storeC (i := 0) rfl rfl rfl rfl rfl rfl rfl rfl rfl rfl ?_)
  refine ExL.nil ?_
  refine Ex.seq ?_
  refine Ex.regSeq (ExL.pures 2 rfl ?_)
  refine ExL.nil ?_
  refine Ex.block ?_
  refine Ex.loopK (X := Nat) (fun k => [(7, .int .i64 k)]) (fun k => [.blk b2 (encMk (fullM k)) 36]) (fun k => (k : Int) ≤ b) (fun k => b.toNat - k) 0 [(2, _), (3, _), (6, _)] [_] 2 [0, 1] ⟨rfl, trivial⟩ ⟨rfl, rfl, rfl, trivial⟩ (rfl) rfl (by omega) (fun k hI => ?_)
  have hI : (k : Int) ≤ b := hI
  have hbk := hb
  refine Ex.regSeq (ExL.pures 0 rfl ?_)
  refine ExL.lss rfl rfl rfl rfl rfl rfl (fun h3 => ?_) (fun h3 => ?_)
  · refine ExL.nil ?_
    refine Ex.seq ?_
    refine Ex.cond_t rfl ?_
    refine Ex.skip ?_
    refine Ex.seq ?_
    refine Ex.block ?_
    refine Ex.regSeq (ExL.pures 2 rfl ?_)
    refine ExL.nil ?_
    refine Ex.region (ExL.pures 0 rfl ?_)
    refine ExL.free (fr_loadN rfl rfl rfl rfl rfl (SegO.whole (i := 0) rfl)) rfl rfl rfl ?_
    refine ExL.pures 1 rfl ?_
    refine ExL.op rfl (op_ret rfl rfl rfl (c_with (fullM k) (fullM_ok (by omega)) _ (by omega)) (fun _ _ => trivial) rfl rfl (fun x4 hx4 => ?_))
    refine ExL.op rfl (op_storeC (i := 0) rfl rfl rfl rfl rfl rfl rfl rfl rfl rfl ?_)
    refine ExL.nil ?_
    refine Ex.region (ExL.pures 0 rfl ?_)
    refine ExL.free (by first | exact fr_add64 rfl rfl rfl (by omega) | exact fr_add rfl rfl rfl) rfl rfl rfl ?_
    refine ExL.pures 1 rfl ?_
    refine ExL.nil ?_
    refine Hand.mk (k + 1) 2 [0, 1] ⟨rfl, trivial⟩ ⟨rfl, rfl, rfl, trivial⟩ (rfl) rfl (by omega) (by omega)
  · refine ExL.nil ?_
    refine Ex.seq ?_
    refine Ex.cond_f rfl ?_
    refine Ex.exit ?_
    obtain rfl : b = (k : Int) := (by omega)
    refine Ex.regSeq (ExL.pures 0 rfl ?_)
    refine ExL.free (fr_loadN rfl rfl rfl rfl rfl (SegO.whole (i := 0) rfl)) rfl rfl rfl ?_
    refine ExL.op rfl (op_storeC (i := 1) rfl rfl rfl rfl rfl rfl rfl rfl rfl rfl ?_)
    refine ExL.nil ?_
    refine Ex.ret ?_
    refine RetQ.mk () rfl (.cell rfl (.many rfl rfl rfl (SegO.whole (i := 1) rfl)) .nil) (rfl) [] (rfl) rfl (trivial)
theorem e_63 : Enters Tryd.prog 63 := Enters.of Tryd.func63 rfl
theorem c_l05Full (b : Int) (hb : 0 ≤ b ∧ b ≤ 128) : Ret Tryd.prog 63 [.int .u8 b] (fun w => True) (fun x : Unit => .agg (encMk (fullM b.toNat)).toArray) (fun x => []) (fun x => True) := by
  refine Ret.of e_63 Tryd.func63 rfl Tryd.ntmps63 rfl rfl (fun w hpre => ?_)
  refine Ex.regSeq (ExL.pures 0 rfl ?_)
  refine ExL.op rfl (op_alloc rfl rfl rfl rfl rfl (fun b1 => ?_))
  refine ExL.nil ?_
  refine Ex.regSeq (ExL.pures 0 rfl ?_)
  refine ExL.free (fr_build rfl rfl rfl rfl) rfl rfl rfl ?_
  refine ExL.op rfl (op_alloc rfl rfl rfl rfl rfl (fun b2 => ?_))
  refine ExL.op rfl (op_storeC (i := 0) rfl rfl rfl rfl rfl rfl rfl rfl rfl rfl ?_)
  refine ExL.nil ?_
  refine Ex.seq ?_
  refine Ex.regSeq (ExL.pures 1 rfl ?_)
  refine ExL.nil ?_
  refine Ex.block ?_
  refine Ex.loopK (X := Nat) (fun k => [(4, .int .i64 k)]) (fun k => [.blk b2 (encMk (fullM k)) 36]) (fun k => (k : Int) ≤ b) (fun k => b.toNat - k) 0 [(0, _), (2, _), (3, _)] [_] 2 [0, 1] ⟨rfl, trivial⟩ ⟨rfl, rfl, rfl, trivial⟩ (rfl) rfl (by omega) (fun k hI => ?_)
  have hI : (k : Int) ≤ b := hI
  have hbk := hb
  refine Ex.seq ?_
  refine Ex.regSeq (ExL.pures 2 rfl ?_)
  refine ExL.free (by first | exact fr_conv64 rfl rfl rfl rfl (by omega) | exact fr_conv rfl rfl rfl rfl) rfl rfl rfl ?_
  refine ExL.lss rfl rfl rfl rfl rfl rfl (fun h3 => ?_) (fun h3 => ?_)
  · refine ExL.nil ?_
    refine Ex.cond_t rfl ?_
    refine Ex.skip ?_
    refine Ex.seq ?_
    refine Ex.block ?_
    refine Ex.region (ExL.pures 0 rfl ?_)
    refine ExL.free (fr_loadN rfl rfl rfl rfl rfl (SegO.whole (i := 0) rfl)) rfl rfl rfl ?_
    refine ExL.pures 1 rfl ?_
    refine ExL.op rfl (op_ret rfl rfl rfl (c_l05Put (fullM k) (fullM_ok (by omega)) _ (by omega)) (fun _ _ => trivial) rfl rfl (fun x4 hx4 => ?_))
    refine ExL.op rfl (op_storeC (i := 0) rfl rfl rfl rfl rfl rfl rfl rfl rfl rfl ?_)
    refine ExL.nil ?_
    refine Ex.region (ExL.pures 1 rfl ?_)
    refine ExL.free (by first | exact fr_add64 rfl rfl rfl (by omega) | exact fr_add rfl rfl rfl) rfl rfl rfl ?_
    refine ExL.pures 1 rfl ?_
    refine ExL.nil ?_
    refine Hand.mk (k + 1) 2 [0, 1] ⟨rfl, trivial⟩ ⟨rfl, rfl, rfl, trivial⟩ (rfl) rfl (by omega) (by omega)
  · refine ExL.nil ?_
    refine Ex.cond_f rfl ?_
    refine Ex.exit ?_
    obtain rfl : b = (k : Int) := (by omega)
    refine Ex.regSeq (ExL.pures 0 rfl ?_)
    refine ExL.free (fr_loadN rfl rfl rfl rfl rfl (SegO.whole (i := 0) rfl)) rfl rfl rfl ?_
    refine ExL.op rfl (op_storeC (i := 1) rfl rfl rfl rfl rfl rfl rfl rfl rfl rfl ?_)
    refine ExL.nil ?_
    refine Ex.ret ?_
    refine RetQ.mk () rfl (.cell rfl (.many rfl rfl rfl (SegO.whole (i := 1) rfl)) .nil) (rfl) [] (rfl) rfl (trivial)
end Go.Proofs.YtejedjgajcjejaaDoor

/- What these functions of the program hand back, each proved by walking its operations. -/
set_option linter.unusedVariables false
set_option linter.unusedSimpArgs false
set_option maxRecDepth 4000
namespace Go.Proofs.YtejedjgajcjejaaDoor
open Go Go.Sx Go.RowKit Go.W Go.Proofs
attribute [local irreducible] Ex ExL ExD Op1 Free RetQ MutQ Reads CellO SegO LoadsAs
theorem e_94 : Enters Tryd.prog 94 := Enters.of Tryd.func94 rfl
theorem c_photoOK (s : List Int) (hv : validStack s = true) (As : Option Addr) (cs : Nat) (p : VPh) (hp : OkPh p) : Ret Tryd.prog 94 [.slice As s.length cs, .agg (encPh p).toArray] (fun w => Rd w As (s.flatMap (eI .u8))) (fun x : Unit => .bool (photoOk s p.l)) (fun x => []) (fun x => True) := by
  refine Ret.of e_94 Tryd.func94 rfl Tryd.ntmps94 rfl rfl (fun w hpre => ?_)
  have hs := hpre.base
  have hS := stk hv
  have h8 := hS.len8
  have hm0 : maxLen = 9223372036854775807 := rfl
  refine Ex.regSeq (ExL.pures 0 rfl ?_)
  refine ExL.op rfl (op_box rfl rfl rfl rfl rfl (fun b1 => ?_))
  refine ExL.pures 1 rfl ?_
  refine ExL.nil ?_
  refine Ex.seq ?_
  refine Ex.regSeq (ExL.pures 0 rfl ?_)
  refine ExL.free (fr_loadN rfl rfl rfl rfl rfl (SegO.whole (i := 0) rfl)) rfl rfl rfl ?_
  refine ExL.pures 1 rfl ?_
  refine ExL.nil ?_
  refine Ex.block ?_
  refine Ex.loopK (X := Nat) (fun k => [(9, .int .i64 k)]) (fun k => []) (fun k => k ≤ 8 ∧ ∀ i, i < k → phAt s p.l i = true) (fun k => 8 - k) 0 [(0, _), (8, _)] [] 1 [] ⟨rfl, trivial⟩ ⟨rfl, rfl, trivial⟩ (rfl) rfl ⟨Nat.zero_le _, fun i hi => by omega⟩ (fun k hI => ?_)
  have hI : k ≤ 8 ∧ ∀ i, i < k → phAt s p.l i = true := hI
  obtain ⟨hk, hall⟩ := hI
  refine Ex.regSeq (ExL.pures 0 rfl ?_)
  refine ExL.lss rfl rfl rfl rfl rfl rfl (fun h2 => ?_) (fun h2 => ?_)
  · refine ExL.nil ?_
    refine Ex.seq ?_
    refine Ex.cond_t rfl ?_
    refine Ex.skip ?_
    refine Ex.seq ?_
    refine Ex.block ?_
    refine Ex.regSeq (ExL.pures 1 rfl ?_)
    refine ExL.free (fr_indexG encMk_len zMk rfl rfl rfl rfl rfl rfl rfl rfl (by rw [ph_len]; omega)) rfl rfl rfl ?_
    refine ExL.op rfl (op_alloc rfl rfl rfl rfl rfl (fun b3 => ?_))
    refine ExL.pures 1 rfl ?_
    refine ExL.op rfl (op_storeC (i := 0) rfl rfl rfl rfl rfl rfl rfl rfl rfl rfl ?_)
    refine ExL.nil ?_
    refine Ex.seq ?_
    refine Ex.regSeq (ExL.pures 3 rfl ?_)
    refine ExL.geq rfl rfl rfl rfl rfl rfl (fun h4 => ?_) (fun h4 => ?_)
    · refine ExL.nil ?_
      refine Ex.cond_t rfl ?_
      refine Ex.seq ?_
      refine Ex.regSeq (ExL.pures 0 rfl ?_)
      refine ExL.free (fr_loadN rfl rfl rfl rfl rfl (SegO.whole (i := 0) rfl)) rfl rfl rfl ?_
      refine ExL.free (fr_build rfl rfl rfl rfl) rfl rfl rfl ?_
      refine ExL.free (fr_neq_ints (p.l.getD k zMk).l [0, 0] rfl rfl rfl rfl rfl rfl rfl rfl rfl rfl) rfl rfl rfl ?_
      refine ExL.nil ?_
      refine Ex.cond rfl (fun hb5 => ?_) (fun hb5 => ?_)
      · refine Ex.regSeq (ExL.pures 1 rfl ?_)
        refine ExL.nil ?_
        refine Ex.ret ?_
        refine RetQ.mk () rfl (.tmp rfl .nil) (tB (by first | exact po_all (by omega) hall | exact po_no (k := k) (by omega) (by first | exact pa_1 (by omega) (by assumption) | exact pa_2 (by omega) (by assumption) | exact pa_3 (by omega) (by assumption) | exact pa_5 (by omega) (by assumption) | exact pa_2s (by omega) (by assumption)))) [] (rfl) rfl (trivial)
      · refine Ex.skip ?_
        refine Ex.exit ?_
        refine Ex.region (ExL.pures 0 rfl ?_)
        refine ExL.free (by first | exact fr_add64 rfl rfl rfl (by omega) | exact fr_add rfl rfl rfl) rfl rfl rfl ?_
        refine ExL.pures 1 rfl ?_
        refine ExL.nil ?_
        refine Hand.mk (k + 1) 1 [] ⟨rfl, trivial⟩ ⟨rfl, rfl, trivial⟩ (rfl) rfl (⟨by omega, all_snoc hall (by first | exact pa_6 (by omega) (by assumption) | exact pa_4 (by omega) (by assumption) (by omega) (by omega) | exact pa_4s (by omega) (by assumption) (by assumption))⟩) (by omega)
    · refine ExL.nil ?_
      refine Ex.cond_f rfl ?_
      refine Ex.skip ?_
      have hbk := hS.bases k (by omega)
      refine Ex.regSeq (ExL.pures 2 rfl ?_)
      refine ExL.free (fr_indexAddrF (Reads.old hs) (eI_len .u8) rfl rfl rfl rfl rfl rfl (by omega)) rfl rfl rfl ?_
      refine ExL.free (fr_load rfl rfl rfl rfl (by first | exact cellN (Reads.old hs) (eI_len .u8) 0 0 rfl (by omega) rfl | exact cellF (Reads.old hs) (eI_len .u8) 0 0 rfl (by omega) rfl)) rfl rfl rfl ?_
      refine ExL.free (by first | exact fr_conv64 rfl rfl rfl rfl (by omega) | exact fr_conv rfl rfl rfl rfl) rfl rfl rfl ?_
      refine ExL.op rfl (op_ret rfl rfl rfl (c_below (s.getD k 0) (by omega)) (fun _ _ => trivial) rfl rfl (fun x6 hx6 => ?_))
      refine ExL.op rfl (op_alloc rfl rfl rfl rfl rfl (fun b7 => ?_))
      refine ExL.op rfl (op_storeC (i := 0) rfl rfl rfl rfl rfl rfl rfl rfl rfl rfl ?_)
      refine ExL.nil ?_
      refine Ex.regSeq (ExL.pures 0 rfl ?_)
      refine ExL.free (fr_loadN rfl rfl rfl rfl rfl (SegO.whole (i := 1) rfl)) rfl rfl rfl ?_
      refine ExL.free (fr_build rfl rfl rfl rfl) rfl rfl rfl ?_
      refine ExL.free (fr_eql_ints (p.l.getD k zMk).l [0, 0] rfl rfl rfl rfl rfl rfl rfl rfl rfl rfl) rfl rfl rfl ?_
      refine ExL.pures 1 rfl ?_
      refine ExL.bool (d := 29) rfl (fun hb8 => ?_) (fun hb8 => ?_)
      · refine ExL.pures 15 rfl ?_
        refine ExL.nil ?_
        refine Ex.cond_t rfl ?_
        refine Ex.regSeq (ExL.pures 1 rfl ?_)
        refine ExL.nil ?_
        refine Ex.ret ?_
        refine RetQ.mk () rfl (.tmp rfl .nil) (tB (by first | exact po_all (by omega) hall | exact po_no (k := k) (by omega) (by first | exact pa_1 (by omega) (by assumption) | exact pa_2 (by omega) (by assumption) | exact pa_3 (by omega) (by assumption) | exact pa_5 (by omega) (by assumption) | exact pa_2s (by omega) (by assumption)))) [] (rfl) rfl (trivial)
      · refine ExL.free (fr_indexAddr_b (sz := 1) rfl rfl rfl rfl rfl (by omega)) rfl rfl rfl ?_
        refine ExL.free (fr_load rfl rfl rfl rfl (CellO.blk (i := 1) rfl rfl)) rfl rfl rfl ?_
        refine ExL.free (fr_indexAddr_b (sz := 1) rfl rfl rfl rfl rfl (by omega)) rfl rfl rfl ?_
        refine ExL.free (fr_load rfl rfl rfl rfl (CellO.blk (i := 0) rfl rfl)) rfl rfl rfl ?_
        refine ExL.free (by first | exact fr_and255 rfl rfl rfl (by omega) | exact fr_bits rfl rfl rfl (by simp)) rfl rfl rfl ?_
        refine ExL.neq rfl rfl rfl rfl rfl rfl (fun h9 => ?_) (fun h9 => ?_)
        · refine ExL.pures 9 rfl ?_
          refine ExL.nil ?_
          refine Ex.cond_t rfl ?_
          refine Ex.regSeq (ExL.pures 1 rfl ?_)
          refine ExL.nil ?_
          refine Ex.ret ?_
          refine RetQ.mk () rfl (.tmp rfl .nil) (tB (by first | exact po_all (by omega) hall | exact po_no (k := k) (by omega) (by first | exact pa_1 (by omega) (by assumption) | exact pa_2 (by omega) (by assumption) | exact pa_3 (by omega) (by assumption) | exact pa_5 (by omega) (by assumption) | exact pa_2s (by omega) (by assumption)))) [] (rfl) rfl (trivial)
        · refine ExL.pures 2 rfl ?_
          refine ExL.free (fr_indexAddr_b (sz := 1) rfl rfl rfl rfl rfl (by omega)) rfl rfl rfl ?_
          refine ExL.free (fr_load rfl rfl rfl rfl (CellO.blk (i := 1) rfl rfl)) rfl rfl rfl ?_
          refine ExL.free (fr_indexAddr_b (sz := 1) rfl rfl rfl rfl rfl (by omega)) rfl rfl rfl ?_
          refine ExL.free (fr_load rfl rfl rfl rfl (CellO.blk (i := 0) rfl rfl)) rfl rfl rfl ?_
          refine ExL.free (by first | exact fr_and255 rfl rfl rfl (by omega) | exact fr_bits rfl rfl rfl (by simp)) rfl rfl rfl ?_
          refine ExL.neq rfl rfl rfl rfl rfl rfl (fun h10 => ?_) (fun h10 => ?_)
          · refine ExL.pures 1 rfl ?_
            refine ExL.nil ?_
            refine Ex.cond_t rfl ?_
            refine Ex.regSeq (ExL.pures 1 rfl ?_)
            refine ExL.nil ?_
            refine Ex.ret ?_
            refine RetQ.mk () rfl (.tmp rfl .nil) (tB (by first | exact po_all (by omega) hall | exact po_no (k := k) (by omega) (by first | exact pa_1 (by omega) (by assumption) | exact pa_2 (by omega) (by assumption) | exact pa_3 (by omega) (by assumption) | exact pa_5 (by omega) (by assumption) | exact pa_2s (by omega) (by assumption)))) [] (rfl) rfl (trivial)
          · refine ExL.pures 1 rfl ?_
            refine ExL.nil ?_
            refine Ex.cond_f rfl ?_
            refine Ex.skip ?_
            refine Ex.region (ExL.pures 0 rfl ?_)
            refine ExL.free (by first | exact fr_add64 rfl rfl rfl (by omega) | exact fr_add rfl rfl rfl) rfl rfl rfl ?_
            refine ExL.pures 1 rfl ?_
            refine ExL.nil ?_
            refine Hand.mk (k + 1) 2 [] ⟨rfl, trivial⟩ ⟨rfl, rfl, trivial⟩ (rfl) rfl (⟨by omega, all_snoc hall (by first | exact pa_6 (by omega) (by assumption) | exact pa_4 (by omega) (by assumption) (by omega) (by omega) | exact pa_4s (by omega) (by assumption) (by assumption))⟩) (by omega)
  · refine ExL.nil ?_
    refine Ex.seq ?_
    refine Ex.cond_f rfl ?_
    refine Ex.exit ?_
    refine Ex.regSeq (ExL.pures 1 rfl ?_)
    refine ExL.nil ?_
    refine Ex.ret ?_
    refine RetQ.mk () rfl (.tmp rfl .nil) (tB (by first | exact po_all (by omega) hall | exact po_no (k := k) (by omega) (by first | exact pa_1 (by omega) (by assumption) | exact pa_2 (by omega) (by assumption) | exact pa_3 (by omega) (by assumption) | exact pa_5 (by omega) (by assumption) | exact pa_2s (by omega) (by assumption)))) [] (rfl) rfl (trivial)
theorem e_73 : Enters Tryd.prog 73 := Enters.of Tryd.func73 rfl
theorem c_iValidPhoto (s : List Int) (hu : Nums 255 s) (As : Option Addr) (cs : Nat) (hls : s.length ≤ maxLen) (p : VPh) (hp : OkPh p) : Ret Tryd.prog 73 [.slice As s.length cs, .agg (encPh p).toArray] (fun w => Rd w As (s.flatMap (eI .u8))) (fun x : Unit => .bool (validPh s p)) (fun x => []) (fun x => True) := by
  refine Ret.of e_73 Tryd.func73 rfl Tryd.ntmps73 rfl rfl (fun w hpre => ?_)
  have hs := hpre.base
  have hm0 : maxLen = 9223372036854775807 := rfl
  refine Ex.regSeq (ExL.pures 0 rfl ?_)
  refine ExL.op rfl (op_box rfl rfl rfl rfl rfl (fun b1 => ?_))
  refine ExL.pures 1 rfl ?_
  refine ExL.nil ?_
  refine Ex.regSeq (ExL.pures 1 rfl ?_)
  refine ExL.op rfl (op_ret rfl rfl rfl (c_ValidStack _ (by assumption) _ _ (by first | assumption | omega | (unfold maxLen; omega))) (Reads.get (Reads.old hs)) rfl rfl (fun x2 hx2 => ?_))
  refine ExL.pures 1 rfl ?_
  refine ExL.bool (d := 7) rfl (fun hb3 => ?_) (fun hb3 => ?_)
  · refine ExL.pures 1 rfl ?_
    refine ExL.free (fr_loadN rfl rfl rfl rfl rfl (SegO.whole (i := 0) rfl)) rfl rfl rfl ?_
    refine ExL.op rfl (op_ret rfl rfl rfl (c_photoOK s (by first | assumption | simp_all) _ _ p hp) (Reads.get (Reads.old hs)) rfl rfl (fun x4 hx4 => ?_))
    refine ExL.pures 2 rfl ?_
    refine ExL.nil ?_
    refine Ex.ret ?_
    refine RetQ.mk () rfl (.tmp rfl .nil) (tB (by unfold validPh; simp_all)) [] (rfl) rfl (trivial)
  · refine ExL.pures 5 rfl ?_
    refine ExL.nil ?_
    refine Ex.ret ?_
    refine RetQ.mk () rfl (.tmp rfl .nil) (tB (by unfold validPh; simp_all)) [] (rfl) rfl (trivial)
end Go.Proofs.YtejedjgajcjejaaDoor

/- What these functions of the program hand back, each proved by walking its operations. -/
set_option linter.unusedVariables false
set_option linter.unusedSimpArgs false
set_option maxRecDepth 4000
namespace Go.Proofs.YtejedjgajcjejaaDoor
open Go Go.Sx Go.RowKit Go.W Go.Proofs
attribute [local irreducible] Ex ExL ExD Op1 Free RetQ MutQ Reads CellO SegO LoadsAs
theorem e_96 : Enters Tryd.prog 96 := Enters.of Tryd.func96 rfl
theorem c_ones (v : Int) (hx : 0 ≤ v ∧ v < 18446744073709551616) : Ret Tryd.prog 96 [.int .u64 v] (fun w => True) (fun x : Unit => .int .i64 (popI v)) (fun x => []) (fun x => True) := by
  refine Ret.of e_96 Tryd.func96 rfl Tryd.ntmps96 rfl rfl (fun w hpre => ?_)
  refine Ex.regSeq (ExL.pures 1 rfl ?_)
  refine ExL.nil ?_
  refine Ex.regSeq (ExL.pures 1 rfl ?_)
  refine ExL.free (fr_shr rfl rfl rfl (by omega)) rfl rfl rfl ?_
  refine ExL.free (by first | exact fr_and255 rfl rfl rfl (by omega) | exact fr_bits rfl rfl rfl (by simp)) rfl rfl rfl ?_
  refine ExL.pures 1 rfl ?_
  refine ExL.free (by first | exact fr_and255 rfl rfl rfl (by omega) | exact fr_bits rfl rfl rfl (by simp)) rfl rfl rfl ?_
  refine ExL.free (fr_add rfl rfl rfl) rfl rfl rfl ?_
  refine ExL.pures 1 rfl ?_
  refine ExL.nil ?_
  obtain ⟨a, ha⟩ : ∃ z, IntKind.u64.wrap (bits .and .u64 (v / 2 ^ min (1 : Int).toNat IntKind.u64.bits) 6148914691236517205 + bits .and .u64 v 6148914691236517205) = z := ⟨_, rfl⟩
  rw [ha]
  refine Ex.regSeq (ExL.pures 1 rfl ?_)
  refine ExL.free (fr_shr rfl rfl rfl (by omega)) rfl rfl rfl ?_
  refine ExL.free (by first | exact fr_and255 rfl rfl rfl (by omega) | exact fr_bits rfl rfl rfl (by simp)) rfl rfl rfl ?_
  refine ExL.pures 1 rfl ?_
  refine ExL.free (by first | exact fr_and255 rfl rfl rfl (by omega) | exact fr_bits rfl rfl rfl (by simp)) rfl rfl rfl ?_
  refine ExL.free (fr_add rfl rfl rfl) rfl rfl rfl ?_
  refine ExL.pures 1 rfl ?_
  refine ExL.nil ?_
  obtain ⟨b, hb⟩ : ∃ z, IntKind.u64.wrap (bits .and .u64 (a / 2 ^ min (2 : Int).toNat IntKind.u64.bits) 3689348814741910323 + bits .and .u64 a 3689348814741910323) = z := ⟨_, rfl⟩
  rw [hb]
  refine Ex.regSeq (ExL.pures 1 rfl ?_)
  refine ExL.free (fr_shr rfl rfl rfl (by omega)) rfl rfl rfl ?_
  refine ExL.pures 1 rfl ?_
  refine ExL.free (fr_add rfl rfl rfl) rfl rfl rfl ?_
  refine ExL.free (by first | exact fr_and255 rfl rfl rfl (by omega) | exact fr_bits rfl rfl rfl (by simp)) rfl rfl rfl ?_
  refine ExL.pures 1 rfl ?_
  refine ExL.nil ?_
  obtain ⟨c, hc⟩ : ∃ z, bits .and .u64 (IntKind.u64.wrap (b / 2 ^ min (4 : Int).toNat IntKind.u64.bits + b)) 1085102592571150095 = z := ⟨_, rfl⟩
  rw [hc]
  refine Ex.regSeq (ExL.pures 2 rfl ?_)
  refine ExL.free (fr_shr rfl rfl rfl (by omega)) rfl rfl rfl ?_
  refine ExL.free (fr_add rfl rfl rfl) rfl rfl rfl ?_
  refine ExL.pures 1 rfl ?_
  refine ExL.nil ?_
  obtain ⟨d, hd⟩ : ∃ z, IntKind.u64.wrap (c + c / 2 ^ min (8 : Int).toNat IntKind.u64.bits) = z := ⟨_, rfl⟩
  rw [hd]
  refine Ex.regSeq (ExL.pures 2 rfl ?_)
  refine ExL.free (fr_shr rfl rfl rfl (by omega)) rfl rfl rfl ?_
  refine ExL.free (fr_add rfl rfl rfl) rfl rfl rfl ?_
  refine ExL.pures 1 rfl ?_
  refine ExL.nil ?_
  obtain ⟨e, he⟩ : ∃ z, IntKind.u64.wrap (d + d / 2 ^ min (16 : Int).toNat IntKind.u64.bits) = z := ⟨_, rfl⟩
  rw [he]
  refine Ex.regSeq (ExL.pures 2 rfl ?_)
  refine ExL.free (fr_shr rfl rfl rfl (by omega)) rfl rfl rfl ?_
  refine ExL.free (fr_add rfl rfl rfl) rfl rfl rfl ?_
  refine ExL.pures 1 rfl ?_
  refine ExL.nil ?_
  obtain ⟨f, hf⟩ : ∃ z, IntKind.u64.wrap (e + e / 2 ^ min (32 : Int).toNat IntKind.u64.bits) = z := ⟨_, rfl⟩
  rw [hf]
  have hq := ones64' hx ha hb hc hd he hf
  have hq0 := hq.1
  have hq1 := hq.2.1
  refine Ex.regSeq (ExL.pures 1 rfl ?_)
  refine ExL.free (by first | exact fr_conv64 rfl rfl rfl rfl (by omega) | exact fr_conv rfl rfl rfl rfl) rfl rfl rfl ?_
  refine ExL.free (by first | exact fr_and255 rfl rfl rfl (by omega) | exact fr_bits rfl rfl rfl (by simp)) rfl rfl rfl ?_
  refine ExL.pures 1 rfl ?_
  refine ExL.nil ?_
  refine Ex.ret ?_
  refine RetQ.mk () rfl (.tmp rfl .nil) (tI (by obtain ⟨q0, q1, q2⟩ := ones64' hx ha hb hc hd he hf; rw [and127 ⟨q0, q1⟩, q2])) [] (rfl) rfl (trivial)
theorem e_75 : Enters Tryd.prog 75 := Enters.of Tryd.func75 rfl
theorem c_count (m : VMk) (hm : OkMk m) : Ret Tryd.prog 75 [.agg (encMk m).toArray] (fun w => True) (fun x : Unit => .int .i64 (cntM m)) (fun x => []) (fun x => True) := by
  refine Ret.of e_75 Tryd.func75 rfl Tryd.ntmps75 rfl rfl (fun w hpre => ?_)
  have hb0 := popI_bd m.lo
  have hb1 := popI_bd m.hi
  refine Ex.regSeq (ExL.pures 0 rfl ?_)
  refine ExL.op rfl (op_box rfl rfl rfl rfl rfl (fun b1 => ?_))
  refine ExL.pures 1 rfl ?_
  refine ExL.nil ?_
  refine Ex.drawSeqM rfl ?_
  refine ExD.take (i := 0) rfl (by kernel_rfl) (fr_indexAddr_b (sz := 1) rfl rfl rfl rfl rfl (by omega)) ((List.Sublist.refl _)) rfl rfl rfl ?_
  refine ExD.take (i := 1) rfl (by kernel_rfl) (fr_load rfl rfl rfl rfl (CellO.blk (i := 0) rfl rfl)) ((List.Sublist.refl _)) rfl rfl rfl ?_
  refine ExD.take (i := 3) rfl (by kernel_rfl) (fr_indexAddr_b (sz := 1) rfl rfl rfl rfl rfl (by omega)) ((List.Sublist.refl _)) rfl rfl rfl ?_
  refine ExD.take (i := 4) rfl (by kernel_rfl) (fr_load rfl rfl rfl rfl (CellO.blk (i := 0) rfl rfl)) ((List.Sublist.refl _)) rfl rfl rfl ?_
  refine ExD.op (i := 2) rfl (by kernel_rfl) rfl (op_ret rfl rfl rfl (c_ones m.lo (hm.1)) (fun _ _ => trivial) rfl rfl (fun x2 hx2 => ⟨(List.Sublist.refl _), ?_⟩))
  refine ExD.op (i := 5) rfl (by kernel_rfl) rfl (op_ret rfl rfl rfl (c_ones m.hi (hm.2)) (fun _ _ => trivial) rfl rfl (fun x3 hx3 => ⟨(List.Sublist.refl _), ?_⟩))
  refine ExD.take (i := 6) rfl (by kernel_rfl) (by first | exact fr_add64 rfl rfl rfl (by omega) | exact fr_add rfl rfl rfl) ((List.Sublist.refl _)) rfl rfl rfl ?_
  refine ExD.take (i := 7) rfl (by kernel_rfl) (pureVal_ok rfl) ((List.Sublist.refl _)) rfl rfl rfl ?_
  refine ExD.done (by kernel_rfl) ?_
  refine Ex.ret ?_
  refine RetQ.mk () rfl (.tmp rfl .nil) (rfl) [] (rfl) rfl (trivial)
theorem e_76 : Enters Tryd.prog 76 := Enters.of Tryd.func76 rfl
theorem c_digitsM (m : VMk) (hm : OkMk m) : Ret Tryd.prog 76 [.agg (encMk m).toArray] (fun w => True) (fun x : Option Addr × Nat => .slice x.1 (digI m).length x.2) (fun x => [.row (.slice x.1 (digI m).length x.2) 3 1 (digI m).length ((digI m).flatMap (eI .i64))]) (fun x => True) := by
  refine Ret.of e_76 Tryd.func76 rfl Tryd.ntmps76 rfl rfl (fun w hpre => ?_)
  have hm0 : maxLen = 9223372036854775807 := rfl
  refine Ex.regSeq (ExL.pures 0 rfl ?_)
  refine ExL.op rfl (op_box rfl rfl rfl rfl rfl (fun b1 => ?_))
  refine ExL.pures 1 rfl ?_
  refine ExL.nil ?_
  refine Ex.regSeq (ExL.pures 0 rfl ?_)
  refine ExL.op rfl (op_buildSlice (sz := 1) rfl rfl rfl rfl rfl rfl rfl rfl (by decide) rfl rfl rfl (fun r2 => ?_))
  refine ExL.pures 1 rfl ?_
  refine ExL.nil ?_
  refine Ex.seq ?_
  refine Ex.regSeq (ExL.pures 1 rfl ?_)
  refine ExL.nil ?_
  refine Ex.block ?_
  refine Ex.loopA (fun k A c => [(3, .slice A (digP m k).length c), (6, .int .i64 k)]) (fun k A c => [.row (.slice A (digP m k).length c) 3 1 (digP m k).length ((digP m k).flatMap (eI .i64))]) (fun k => k ≤ 128) (fun k => 128 - k) 0 ((some ⟨r2, 0, none⟩)) (0) [(1, _), (2, _)] [_] 2 [0, 1] ⟨rfl, rfl, trivial⟩ ⟨rfl, rfl, trivial⟩ (rfl) rfl (by omega) (fun k A c hI => ?_)
  have hI : k ≤ 128 := hI
  have hdl := digP_len m k
  refine Ex.regSeq (ExL.pures 0 rfl ?_)
  refine ExL.lss rfl rfl rfl rfl rfl rfl (fun h3 => ?_) (fun h3 => ?_)
  · refine ExL.nil ?_
    refine Ex.seq ?_
    refine Ex.cond_t rfl ?_
    refine Ex.skip ?_
    refine Ex.seq ?_
    refine Ex.block ?_
    refine Ex.regSeq (ExL.pures 2 rfl ?_)
    refine ExL.nil ?_
    refine Ex.regSeq (ExL.pures 0 rfl ?_)
    refine ExL.free (fr_loadN rfl rfl rfl rfl rfl (SegO.whole (i := 1) rfl)) rfl rfl rfl ?_
    refine ExL.pures 1 rfl ?_
    refine ExL.op rfl (op_ret rfl rfl rfl (c_has m hm _ (by omega)) (fun _ _ => trivial) rfl rfl (fun x4 hx4 => ?_))
    refine ExL.nil ?_
    refine Ex.cond rfl (fun hb5 => ?_) (fun hb5 => ?_)
    · refine Ex.region (ExL.pures 2 rfl ?_)
      refine ExL.op rfl (op_buildSlice (sz := 1) rfl rfl rfl rfl rfl rfl rfl rfl (by decide) rfl rfl rfl (fun r6 => ?_))
      refine ExL.op rfl (op_append (sz := 1) (bytes := 8) (i := 1) rfl rfl rfl rfl (Reads.row (i := 0) rfl) rfl (fun e => nomatch e) rfl rfl rfl rfl (by constructor <;> first | omega | (unfold maxLen; omega)) rfl rfl (fun A7 cA7 => ?_))
      refine ExL.pures 1 rfl ?_
      refine ExL.nil ?_
      refine Ex.region (ExL.pures 0 rfl ?_)
      refine ExL.free (by first | exact fr_add64 rfl rfl rfl (by omega) | exact fr_add rfl rfl rfl) rfl rfl rfl ?_
      refine ExL.pures 1 rfl ?_
      refine ExL.nil ?_
      refine HandA.of (k + 1) (A7) (cA7) 3 [1, 2] ⟨(by first | (rw [digP_n (by assumption)]; first | done | rfl) | (rw [digP_y (by assumption), List.length_append]; rfl)), rfl, trivial⟩ ⟨rfl, rfl, trivial⟩ (by first | (rw [digP_n (by assumption)]; first | done | rfl) | (rw [digP_y (by assumption), List.length_append, List.flatMap_append]; rfl)) rfl (by omega) (by omega)
    · refine Ex.skip ?_
      refine Ex.region (ExL.pures 0 rfl ?_)
      refine ExL.free (by first | exact fr_add64 rfl rfl rfl (by omega) | exact fr_add rfl rfl rfl) rfl rfl rfl ?_
      refine ExL.pures 1 rfl ?_
      refine ExL.nil ?_
      refine HandA.of (k + 1) (A) (c) 2 [0, 1] ⟨(by first | (rw [digP_n (by assumption)]; first | done | rfl) | (rw [digP_y (by assumption), List.length_append]; rfl)), rfl, trivial⟩ ⟨rfl, rfl, trivial⟩ (by first | (rw [digP_n (by assumption)]; first | done | rfl) | (rw [digP_y (by assumption), List.length_append, List.flatMap_append]; rfl)) rfl (by omega) (by omega)
  · refine ExL.nil ?_
    refine Ex.seq ?_
    refine Ex.cond_f rfl ?_
    refine Ex.exit ?_
    obtain rfl : k = 128 := (by omega)
    refine Ex.regSeq (ExL.pures 2 rfl ?_)
    refine ExL.nil ?_
    refine Ex.ret ?_
    refine RetQ.mk (A, c) rfl (.tmp rfl .nil) (rfl) [0] (rfl) rfl (trivial)
end Go.Proofs.YtejedjgajcjejaaDoor

/- The text of a photo. -/
set_option linter.unusedVariables false
namespace Go.W
open Go Go.Sx
/-- A growing slice of strings in a loop. -/
theorem digP_get {m : VMk} {k i : Nat} (hi : i < (digP m k).length) : ∃ d, d < k ∧ hasM m d = true ∧ (digP m k).getD i 0 = (d : Int) := by
  have h := getD_mem (s := digP m k) 0 hi
  unfold digP at h
  obtain ⟨d, hd, e⟩ := List.mem_map.1 h
  have h2 := List.mem_filter.1 hd
  exact ⟨d, List.mem_range.1 h2.1, h2.2, by unfold digP; exact e.symm⟩
def marksT (m : VMk) (k : Nat) : List UInt8 := Lib.join ((digP m k).map Lib.itoa) [124]
def wheelT (m : VMk) (b : Int) : List UInt8 := if m.l = (fullM b.toNat).l then [63] else marksT m 128
theorem marksT_0 (m : VMk) : marksT m 0 = [] := rfl
theorem marksT_n {m : VMk} {k : Nat} (h : hasM m k = false) : marksT m (k + 1) = marksT m k := by unfold marksT; rw [digP_n h]
theorem join_ne {xs : List (List UInt8)} {sep : List UInt8} (h : xs ≠ []) (h1 : ∀ x ∈ xs, 1 ≤ x.length) : Lib.join xs sep ≠ [] := by
  cases xs with
  | nil => exact absurd rfl h
  | cons y r =>
    rw [Lib.join_cons]
    intro e
    have h2 := h1 y (by simp)
    have h3 := congrArg List.length e
    rw [List.length_append] at h3
    simp at h3
    rw [h3.1] at h2
    simp at h2
theorem marksT_e {m : VMk} {k : Nat} (h : marksT m k = []) : digP m k = [] := by
  cases hd : digP m k with
  | nil => rfl
  | cons a r =>
    refine absurd h ?_
    unfold marksT
    rw [hd]
    exact join_ne (by simp) (fun x hx => by
      obtain ⟨n, _, rfl⟩ := List.mem_map.1 hx
      exact itoa_pos n)
theorem marksT_y0 {m : VMk} {k : Nat} (h : hasM m k = true) (h0 : marksT m k = []) : marksT m (k + 1) = marksT m k ++ Lib.itoa (k : Int) := by
  have h1 := marksT_e h0
  rw [h0]
  unfold marksT
  rw [digP_y h, h1]
  show Lib.join [Lib.itoa (k : Int)] [124] = _
  rw [Lib.join_one]; rfl
theorem marksT_y1 {m : VMk} {k : Nat} (h : hasM m k = true) (h0 : ¬ marksT m k = []) : marksT m (k + 1) = marksT m k ++ [124] ++ Lib.itoa (k : Int) := by
  unfold marksT at h0 ⊢
  rw [digP_y h, List.map_append]
  exact join_snoc (by intro e; rw [e] at h0; exact h0 rfl) _ _
theorem marksT_end {m : VMk} {b : Nat} (hb : b ≤ 128) (h : ∀ d, d < 128 → hasM m d = true → (d : Int) < (b : Int)) : marksT m b = marksT m 128 := by
  unfold marksT
  rw [digP_end hb (fun d hd hh => by have := h d hd hh; omega), digP_all]
theorem marksT_le {m : VMk} : ∀ {k : Nat}, k ≤ 128 → (marksT m k).length ≤ 21 * k
  | 0, _ => by simp [marksT, digP, Lib.join, List.intercalate]
  | k + 1, hk => by
    have ih := marksT_le (m := m) (k := k) (by omega)
    have h2 := itoa_le (n := (k : Int)) (by omega)
    cases h : hasM m k
    · rw [marksT_n h]; omega
    · by_cases h0 : marksT m k = []
      · rw [marksT_y0 h h0, List.length_append]; omega
      · rw [marksT_y1 h h0, List.length_append, List.length_append, List.length_cons, List.length_nil]; omega
theorem wheelT_le {m : VMk} {b : Int} : (wheelT m b).length ≤ 2688 := by
  unfold wheelT
  split
  · simp
  · have := marksT_le (m := m) (k := 128) (by omega)
    omega
/-- As many marks as the base: all of them. -/
theorem cnt_full {m : VMk} {b : Int} (hm : OkMk m) (hb : 0 ≤ b ∧ b ≤ 128) (h : ∀ d, d < 128 → hasM m d = true → (d : Int) < b) : cntM m = b ↔ m.l = (fullM b.toNat).l := by
  have hd : digP m b.toNat = digI m := digP_end (by omega) (fun d hd hh => by have := h d hd hh; omega)
  have hl : cntM m = ((digP m b.toNat).length : Int) := by rw [hd]; exact (digI_len m).symm
  have hl2 : (digP m b.toNat).length = ((List.range b.toNat).filter (hasM m)).length := by unfold digP; rw [List.length_map]
  constructor
  · intro hc
    have h1 : ((List.range b.toNat).filter (hasM m)).length = (List.range b.toNat).length := by rw [List.length_range]; omega
    have h2 := List.length_filter_eq_length_iff.1 h1
    have e : m = fullM b.toNat := has_ext hm (fullM_ok (by omega)) fun d hd' => by
      rw [has_full (by omega) hd']
      by_cases hdb : d < b.toNat
      · rw [h2 d (List.mem_range.2 hdb), decide_eq_true hdb]
      · rw [decide_eq_false hdb]
        cases hh : hasM m d
        · rfl
        · have := h d hd' hh; omega
    rw [← e]
  · intro e
    have e := mk_inj e
    have h1 : ((List.range b.toNat).filter (hasM m)).length = (List.range b.toNat).length := by
      refine List.length_filter_eq_length_iff.2 fun d hd' => ?_
      have hdb := List.mem_range.1 hd'
      rw [e, has_full (by omega) (by omega), decide_eq_true hdb]
    rw [List.length_range] at h1
    omega
theorem wheel_y {m : VMk} {b : Int} (hm : OkMk m) (hb : 0 ≤ b ∧ b ≤ 128) (h : ∀ d, d < 128 → hasM m d = true → (d : Int) < b) (hc : cntM m = b) : wheelT m b = [63] := if_pos ((cnt_full hm hb h).1 hc)
theorem wheel_n {m : VMk} {b : Int} (hm : OkMk m) (hb : 0 ≤ b ∧ b ≤ 128) (h : ∀ d, d < 128 → hasM m d = true → (d : Int) < b) (hc : ¬ cntM m = b) : wheelT m b = marksT m 128 := if_neg (fun e => hc ((cnt_full hm hb h).2 e))
def wpart (s : List Int) (l : List VMk) (j : Nat) : List UInt8 := wheelT (l.getD (s.length - 1 - j) zMk) (s.getD (s.length - 1 - j) 0)
def phT (s : List Int) (l : List VMk) : List UInt8 := Lib.join (partsF (wpart s l) s.length) [58]
def phTx (s : List Int) (p : VPh) : List UInt8 := if validPh s p = true then phT s p.l else []
theorem phTx_f {s : List Int} {p : VPh} (h : validPh s p = false) : phTx s p = [] := if_neg (by simp [h])
theorem phTx_t {s : List Int} {p : VPh} (h : validPh s p = true) : phTx s p = phT s p.l := if_pos h
theorem sepW_le {s : List Int} {l : List VMk} (hs : Stk s) {k : Nat} (hk : k ≤ s.length) : (sepT (wpart s l) [58] s.length k).length ≤ 22000 := by
  have h1 := sepT_le (f := wpart s l) (sep := [58]) (B := 2688) (n := s.length) (fun i hi => wheelT_le) k hk
  have h2 := hs.len8
  simp only [List.length_cons, List.length_nil] at h1
  omega
theorem phT_le {s : List Int} {l : List VMk} (hs : Stk s) : (phT s l).length ≤ 22000 := by
  unfold phT
  rw [← sepT_end]
  exact sepW_le hs (Nat.le_refl _)
end Go.W
namespace Go.W
open Go Go.Sx
theorem digI_bd (m : VMk) (i : Nat) : 0 ≤ (digI m).getD i 0 ∧ (digI m).getD i 0 ≤ 128 := by
  by_cases h : i < (digI m).length
  · obtain ⟨d, hd, _, e⟩ := digP_get (m := m) (k := 128) h
    have e : (digI m).getD i 0 = (d : Int) := e
    rw [e]; omega
  · simp [List.getD, List.getElem?_eq_none (by omega : (digI m).length ≤ i)]
def strsP (l : List Int) (k : Nat) : List (List UInt8) := (l.take k).map Lib.itoa
theorem strsP_len {l : List Int} {k : Nat} (hk : k ≤ l.length) : (strsP l k).length = k := by simp [strsP]; omega
theorem strsP_s {l : List Int} {k : Nat} (hk : k < l.length) : strsP l (k + 1) = strsP l k ++ [Lib.itoa (l.getD k 0)] := by
  unfold strsP
  rw [List.take_succ_eq_append_getElem hk, List.map_append]
  simp [List.getD, hk]
theorem strs_join (m : VMk) : Lib.join (strsP (digI m) (digI m).length) [124] = marksT m 128 := by
  unfold strsP marksT
  rw [List.take_length, digP_all]
end Go.W

/- What these functions of the program hand back, each proved by walking its operations. -/
set_option linter.unusedVariables false
set_option linter.unusedSimpArgs false
set_option maxRecDepth 4000
namespace Go.Proofs.YtejedjgajcjejaaDoor
open Go Go.Sx Go.RowKit Go.W Go.Proofs
attribute [local irreducible] Ex ExL ExD Op1 Free RetQ MutQ Reads CellO SegO LoadsAs
theorem e_77 : Enters Tryd.prog 77 := Enters.of Tryd.func77 rfl
theorem c_Itoa (n : Int) (hn : -9223372036854775808 ≤ n ∧ n ≤ 9223372036854775807) : Ret Tryd.prog 77 [.int .i64 n] (fun w => TabO Tryd.prog w) (fun _ : Unit => sv (Lib.itoa n)) (fun _ => []) (fun _ => True) :=
  ⟨e_77, fun w ht => (Go.Proofs.Tryd.strconv_Itoa n hn.1 hn.2 w ht).mono (by rintro e w' ⟨rfl, q, os, rfl⟩; exact ⟨(), trivial, rfl, below_grw w q os, by simp, List.Pairwise.nil⟩)⟩
theorem e_42 : Enters Tryd.prog 42 := Enters.of Tryd.func42 rfl
set_option maxHeartbeats 1000000 in
theorem c_iPhotoText (s : List Int) (hu : Nums 255 s) (As : Option Addr) (cs : Nat) (hls : s.length ≤ maxLen) (p : VPh) (hp : OkPh p) : Ret Tryd.prog 42 [.slice As s.length cs, .agg (encPh p).toArray] (fun w => Rd w As (s.flatMap (eI .u8)) ∧ TabO Tryd.prog w) (fun x : Unit => sv (phTx s p)) (fun x => []) (fun x => True) := by
  refine Ret.of e_42 Tryd.func42 rfl Tryd.ntmps42 rfl rfl (fun w hpre => ?_)
  have hs := hpre.1.base
  have htab := hpre.2.base
  have hm0 : maxLen = 9223372036854775807 := rfl
  refine Ex.regSeq (ExL.pures 0 rfl ?_)
  refine ExL.op rfl (op_box rfl rfl rfl rfl rfl (fun b1 => ?_))
  refine ExL.pures 1 rfl ?_
  refine ExL.nil ?_
  refine Ex.seq ?_
  refine Ex.regSeq (ExL.pures 1 rfl ?_)
  refine ExL.free (fr_loadN rfl rfl rfl rfl rfl (SegO.whole (i := 0) rfl)) rfl rfl rfl ?_
  refine ExL.op rfl (op_ret rfl rfl rfl (c_iValidPhoto s (by assumption) _ _ (by omega) p hp) (Reads.get (Reads.old hs)) rfl rfl (fun x2 hx2 => ?_))
  refine ExL.pures 1 rfl ?_
  refine ExL.nil ?_
  refine Ex.cond rfl (fun hb3 => ?_) (fun hb3 => ?_)
  · replace hb3 := nb_t hb3
    refine Ex.regSeq (ExL.pures 1 rfl ?_)
    refine ExL.nil ?_
    refine Ex.ret ?_
    refine RetQ.mk () rfl (.tmp rfl .nil) (tS (by first | exact (phTx_f (by assumption)).symm | exact (phTx_t (by assumption)).symm)) [] (rfl) rfl (trivial)
  · replace hb3 := nb_f hb3
    refine Ex.skip ?_
    have hvp := (by assumption : validPh s p = true)
    obtain ⟨hvs, hS, hP⟩ := vph hp hvp
    have h8 := hS.len8
    refine Ex.regSeq (ExL.pures 0 rfl ?_)
    refine ExL.op rfl (op_buildSlice (sz := 1) rfl rfl rfl rfl rfl rfl rfl rfl (by decide) rfl rfl rfl (fun r4 => ?_))
    refine ExL.op rfl (op_alloc rfl rfl rfl rfl rfl (fun b5 => ?_))
    refine ExL.op rfl (op_storeC (i := 0) rfl rfl rfl rfl rfl rfl rfl rfl rfl rfl ?_)
    refine ExL.nil ?_
    refine ExT.seq ?_
    refine ExT.reg (ExL.pures 1 rfl ?_)
    refine ExL.op rfl (op_ret rfl rfl rfl (c_Back s _ _) (fun _ _ => trivial) rfl rfl (fun x6 hx6 => ?_))
    refine ExL.nil ?_
    refine Ex.rangeKX (X := Option Addr × Nat) (N := s.length) (encs := fun k => [.int .i64 ((s.length - 1 - k : Nat) : Int), .int .u8 (s.getD (s.length - 1 - k) 0)]) (fun k => [(6, .int .i64 ((s.length - 1 - k : Nat) : Int)), (7, .int .u8 (s.getD (s.length - 1 - k) 0))]) (fun k q => [.blk b5 [.slice q.1 k q.2] 51, .row (.slice q.1 k q.2) 9 1 k ((partsF (wpart s p.l) k).flatMap eSt)]) (fun k q => True) ((some ⟨r4, 0, none⟩), 0) [(3, _), (5, _)] [_] 4 [0, 1, 2, 3] rfl (c_back1X s As cs (by omega) _ _ _ hs) (fun _ => rfl) rfl rfl rfl (rfl) rfl (trivial) ⟨rfl, rfl, trivial⟩ (fun l k W q hk hI hW => ?_) (fun l k W q hk hI hW => ?_) (fun D W q hI hW => ?_)
    · have hs := hs.keep hW
      have htab := htab.keep hW
      refine Ex.regSeq (ExL.pures 1 rfl ?_)
      refine ExL.nil ?_
      refine Ex.region (ExL.pures 1 rfl ?_)
      refine ExL.nil ?_
      exact ⟨rfl, ⟨rfl, rfl, rfl, rfl, trivial⟩, rfl⟩
    · have hs := hs.keep hW
      have htab := htab.keep hW
      obtain ⟨j, hj⟩ : ∃ j : Nat, s.length - 1 - k = j := ⟨_, rfl⟩
      have hjs : j < s.length := by omega
      rw [hj]
      have hbj := hS.bases j hjs
      have hmj := hp j (by omega)
      have hlt := hP.lt j hjs
      have hw1 : cntM (p.l.getD j zMk) = s.getD j 0 → wpart s p.l k = [63] := fun h => by unfold wpart; rw [hj]; exact wheel_y hmj (by omega) hlt h
      have hw2 : ¬ cntM (p.l.getD j zMk) = s.getD j 0 → wpart s p.l k = Lib.join (strsP (digI (p.l.getD j zMk)) (digI (p.l.getD j zMk)).length) [124] := fun h => by unfold wpart; rw [hj, strs_join]; exact wheel_n hmj (by omega) hlt h
      have hdl := digI_len' (p.l.getD j zMk)
      refine Ex.block ?_
      refine Ex.seq ?_
      refine Ex.regSeq (ExL.pures 1 rfl ?_)
      refine ExL.free (fr_indexAddr_b (sz := 2) rfl rfl rfl rfl rfl (by omega)) rfl rfl rfl ?_
      refine ExL.free (fr_loadN rfl rfl rfl rfl rfl (segB (i := 3) rfl encMk_len zMk (by rw [ph_len]; omega))) rfl rfl rfl ?_
      refine ExL.op rfl (op_ret rfl rfl rfl (c_count (p.l.getD j zMk) (hp j (by omega))) (fun _ _ => trivial) rfl rfl (fun x7 hx7 => ?_))
      refine ExL.pures 1 rfl ?_
      refine ExL.free (by first | exact fr_conv64 rfl rfl rfl rfl (by omega) | exact fr_conv rfl rfl rfl rfl) rfl rfl rfl ?_
      refine ExL.eql rfl rfl rfl rfl rfl rfl (fun h8 => ?_) (fun h8 => ?_)
      · refine ExL.nil ?_
        refine Ex.cond_t rfl ?_
        refine Ex.regSeq (ExL.pures 0 rfl ?_)
        refine ExL.free (fr_load rfl rfl rfl rfl (CellO.blk (i := 1) rfl rfl)) rfl rfl rfl ?_
        refine ExL.op rfl (op_buildSlice (sz := 1) rfl rfl rfl rfl rfl rfl rfl rfl (by decide) rfl rfl rfl (fun r9 => ?_))
        refine ExL.op rfl (op_append (sz := 1) (bytes := 16) (i := 3) rfl rfl rfl rfl (Reads.row (i := 0) rfl) rfl (fun e => nomatch e) rfl rfl rfl rfl (by constructor <;> first | omega | (unfold maxLen; omega)) rfl rfl (fun A10 cA10 => ?_))
        refine ExL.op rfl (op_storeC (i := 2) rfl rfl rfl rfl rfl rfl rfl rfl rfl rfl ?_)
        refine ExL.nil ?_
        refine Ex.exit ?_
        exact ⟨rfl, (A10, cA10), 5, [1, 2, 3, 4], trivial, (by first | exact pk3R (by rw [partsF_s, List.flatMap_append, hw1 (by assumption)]; rfl) | exact pk3R (by rw [partsF_s, List.flatMap_append, hw3 (by assumption)]; rfl)), rfl⟩
      · refine ExL.nil ?_
        refine Ex.cond_f rfl ?_
        refine Ex.skip ?_
        refine Ex.regSeq (ExL.pures 0 rfl ?_)
        refine ExL.op rfl (op_buildSlice (sz := 1) rfl rfl rfl rfl rfl rfl rfl rfl (by decide) rfl rfl rfl (fun r12 => ?_))
        refine ExL.pures 1 rfl ?_
        refine ExL.nil ?_
        refine Ex.seq ?_
        refine Ex.regSeq (ExL.pures 1 rfl ?_)
        refine ExL.free (fr_indexAddr_b (sz := 2) rfl rfl rfl rfl rfl (by omega)) rfl rfl rfl ?_
        refine ExL.free (fr_loadN rfl rfl rfl rfl rfl (segB (i := 4) rfl encMk_len zMk (by rw [ph_len]; omega))) rfl rfl rfl ?_
        refine ExL.op rfl (op_ret rfl rfl rfl (c_digitsM (p.l.getD j zMk) (hp j (by omega))) (fun _ _ => trivial) rfl rfl (fun x13 hx13 => ?_))
        refine ExL.pures 2 rfl ?_
        refine ExL.nil ?_
        refine Ex.block ?_
        refine Ex.loopA (fun i A c => [(8, .slice A (strsP (digI (p.l.getD j zMk)) i).length c), (36, .int .i64 i)]) (fun i A c => [.row (.slice A (strsP (digI (p.l.getD j zMk)) i).length c) 9 1 (strsP (digI (p.l.getD j zMk)) i).length ((strsP (digI (p.l.getD j zMk)) i).flatMap eSt)]) (fun i => i ≤ (digI (p.l.getD j zMk)).length) (fun i => (digI (p.l.getD j zMk)).length - i) 0 ((some ⟨r12, 0, none⟩)) (0) [(5, _), (34, _), (35, _)] [_, _, _, _, _] 6 [1, 0, 2, 3, 4, 5] ⟨rfl, rfl, trivial⟩ ⟨rfl, rfl, rfl, trivial⟩ (rfl) rfl (Nat.zero_le _) (fun i A c hI => ?_)
        have hI : i ≤ (digI (p.l.getD j zMk)).length := hI
        refine Ex.regSeq (ExL.pures 0 rfl ?_)
        refine ExL.lss rfl rfl rfl rfl rfl rfl (fun h14 => ?_) (fun h14 => ?_)
        · refine ExL.nil ?_
          refine Ex.seq ?_
          refine Ex.cond_t rfl ?_
          refine Ex.skip ?_
          refine Ex.seq ?_
          refine Ex.block ?_
          have hil : i < (digI (p.l.getD j zMk)).length := by omega
          have hsl := strsP_len (l := digI (p.l.getD j zMk)) (k := i) (by omega)
          have hdb := digI_bd (p.l.getD j zMk) i
          refine Ex.regSeq (ExL.pures 0 rfl ?_)
          refine ExL.free (fr_indexAddrR (sz := 1) 1 rfl rfl rfl rfl rfl rfl (by omega)) rfl rfl rfl ?_
          refine ExL.free (fr_load rfl rfl rfl rfl (by first | exact cellN (Reads.row (i := 1) rfl) (eI_len .i64) 0 0 rfl (by omega) rfl | exact cellF (Reads.row (i := 1) rfl) (eI_len .i64) 0 0 rfl (by omega) rfl)) rfl rfl rfl ?_
          refine ExL.pures 1 rfl ?_
          refine ExL.nil ?_
          refine Ex.region (ExL.pures 2 rfl ?_)
          refine ExL.op rfl (op_ret rfl rfl rfl (c_Itoa ((digI (p.l.getD j zMk)).getD i 0) (by omega)) (fun w hw => TabB.get htab hw) rfl rfl (fun x15 hx15 => ?_))
          refine ExL.op rfl (op_buildSlice (sz := 1) rfl rfl rfl rfl rfl rfl rfl rfl (by decide) rfl rfl rfl (fun r16 => ?_))
          refine ExL.op rfl (op_append (sz := 1) (bytes := 16) (i := 1) rfl rfl rfl rfl (Reads.row (i := 0) rfl) rfl (fun e => nomatch e) rfl rfl rfl rfl (by constructor <;> first | omega | (unfold maxLen; omega)) rfl rfl (fun A17 cA17 => ?_))
          refine ExL.pures 1 rfl ?_
          refine ExL.nil ?_
          refine Ex.region (ExL.pures 0 rfl ?_)
          refine ExL.free (by first | exact fr_add64 rfl rfl rfl (by omega) | exact fr_add rfl rfl rfl) rfl rfl rfl ?_
          refine ExL.pures 1 rfl ?_
          refine ExL.nil ?_
          refine HandA.of (i + 1) (A17) (cA17) 7 [1, 2, 3, 4, 5, 6] ⟨(by rw [strsP_s hil, List.length_append]; rfl), rfl, trivial⟩ ⟨rfl, rfl, rfl, trivial⟩ (by rw [strsP_s hil, List.length_append, List.flatMap_append]; rfl) rfl (by omega) (by omega)
        · refine ExL.nil ?_
          refine Ex.seq ?_
          refine Ex.cond_f rfl ?_
          refine Ex.exit ?_
          have hin : i = (digI (p.l.getD j zMk)).length := by omega
          have hsl9 := strsP_len (l := digI (p.l.getD j zMk)) (k := i) (by omega)
          have hw3 : ¬ cntM (p.l.getD j zMk) = s.getD j 0 → wpart s p.l k = Lib.join (strsP (digI (p.l.getD j zMk)) i) [124] := fun h => by rw [hin]; exact hw2 h
          refine Ex.know (row_cap' (i := 0) rfl) (fun hcap1 => ?_)
          refine Ex.drawI [0, 1, 2, 3, 5] rfl rfl ?_
          refine ExD.take (i := 0) rfl (by kernel_rfl) (fr_load rfl rfl rfl rfl (CellO.blk (i := 3) rfl rfl)) ((List.Sublist.cons_cons _ (List.Sublist.cons_cons _ (List.Sublist.cons_cons _ (List.Sublist.cons_cons _ (List.Sublist.cons _ (List.Sublist.refl _))))))) rfl rfl rfl ?_
          refine ExD.take (i := 1) rfl (by kernel_rfl) (pureVal_ok rfl) ((List.Sublist.cons_cons _ (List.Sublist.cons_cons _ (List.Sublist.cons_cons _ (List.Sublist.cons_cons _ (List.Sublist.cons _ (List.Sublist.refl _))))))) rfl rfl rfl ?_
          refine ExD.op (i := 2) rfl (by kernel_rfl) rfl (op_ret rfl rfl rfl (c_Join (strsP (digI (p.l.getD j zMk)) i) _ rfl _ _ [124] hcap1 (by omega) (by rw [hin, strs_join]; have := marksT_le (m := (p.l.getD j zMk)) (k := 128) (by omega); omega)) (Reads.get (Reads.row (i := 0) rfl)) rfl rfl (fun x19 hx19 => ⟨(List.Sublist.cons_cons _ (List.Sublist.cons_cons _ (List.Sublist.cons_cons _ (List.Sublist.cons_cons _ (List.Sublist.cons _ (List.Sublist.refl _)))))), ?_⟩))
          refine ExD.op (i := 3) rfl (by kernel_rfl) rfl (op_buildSlice (sz := 1) rfl rfl rfl rfl rfl rfl rfl rfl (by decide) rfl rfl rfl (fun r20 => ⟨(List.Sublist.cons _ (List.Sublist.cons_cons _ (List.Sublist.cons_cons _ (List.Sublist.cons_cons _ (List.Sublist.cons_cons _ (List.Sublist.cons _ (List.Sublist.refl _))))))), ?_⟩))
          refine ExD.op (i := 4) rfl (by kernel_rfl) rfl (op_append (sz := 1) (bytes := 16) (i := 5) rfl rfl rfl rfl (Reads.row (i := 0) rfl) rfl (fun e => nomatch e) rfl rfl rfl rfl (by constructor <;> first | omega | (unfold maxLen; omega)) rfl rfl (fun A21 cA21 => ⟨(List.Sublist.cons _ (List.Sublist.cons_cons _ (List.Sublist.cons_cons _ (List.Sublist.cons_cons _ (List.Sublist.cons_cons _ (List.Sublist.cons _ (List.Sublist.refl _))))))), ?_⟩))
          refine ExD.last (i := 5) rfl (by kernel_rfl) (by kernel_rfl) rfl (op_storeC (i := 4) rfl rfl rfl rfl rfl rfl rfl rfl rfl rfl ?_)
          refine ExD.done (by kernel_rfl) ?_
          exact ⟨rfl, (A21, cA21), 7, [3, 4, 5, 6], trivial, (by first | exact pk3R (by rw [partsF_s, List.flatMap_append, hw1 (by assumption)]; rfl) | exact pk3R (by rw [partsF_s, List.flatMap_append, hw3 (by assumption)]; rfl)), rfl⟩
    · have hs := hs.keep hW
      have htab := htab.keep hW
      refine Ex.know (row_cap' (i := 2) rfl) (fun hcap => ?_)
      have hpl := partsF_len (wpart s p.l) s.length
      refine Ex.regSeq (ExL.pures 0 rfl ?_)
      refine ExL.free (fr_load rfl rfl rfl rfl (CellO.blk (i := 1) rfl rfl)) rfl rfl rfl ?_
      refine ExL.op rfl (op_ret rfl rfl rfl (c_Join (partsF (wpart s p.l) s.length) _ hpl _ _ [58] hcap (by omega) (Nat.le_trans (phT_le hS) (by decide))) (Reads.get (Reads.row (i := 2) rfl)) rfl rfl (fun x23 hx23 => ?_))
      refine ExL.pures 1 rfl ?_
      refine ExL.nil ?_
      refine Ex.ret ?_
      refine ⟨rfl, ?_⟩
      refine RetQ.mk () rfl (.tmp rfl .nil) (tS (by first | exact (phTx_f (by assumption)).symm | exact (phTx_t (by assumption)).symm)) [] (rfl) rfl (trivial)
end Go.Proofs.YtejedjgajcjejaaDoor

/- Photos read from their texts: a photo is read iff the text is its own. -/
set_option linter.unusedVariables false
set_option linter.unusedSimpArgs false
namespace Go.W
open Go Go.Sx
theorem dgI_mem {m : VMk} {x : Int} : x ∈ digI m ↔ 0 ≤ x ∧ x < 128 ∧ hasM m x.toNat = true := by
  refine ⟨digI_has, fun ⟨h0, h1, h2⟩ => ?_⟩
  unfold digI digM
  exact List.mem_map.2 ⟨x.toNat, List.mem_filter.2 ⟨by simp; omega, h2⟩, by omega⟩
theorem dgI_up (m : VMk) : (digI m).Pairwise (· < ·) := by
  unfold digI digM
  refine List.Pairwise.map _ (fun a b h => ?_) ((List.pairwise_lt_range (n := 128)).filter _)
  exact_mod_cast h
theorem up_ext {a b : List Int} (ha : a.Pairwise (· < ·)) (hb : b.Pairwise (· < ·)) (h : ∀ x, x ∈ a ↔ x ∈ b) : a = b := by
  induction a generalizing b with
  | nil =>
    cases b with
    | nil => rfl
    | cons y r => exact absurd ((h y).2 (by simp)) (by simp)
  | cons x r ih =>
    cases b with
    | nil => exact absurd ((h x).1 (by simp)) (by simp)
    | cons y q =>
      rw [List.pairwise_cons] at ha hb
      have hxy : x = y := by
        rcases List.mem_cons.1 ((h x).1 (by simp)) with e | e
        · exact e
        · rcases List.mem_cons.1 ((h y).2 (by simp)) with e2 | e2
          · exact e2.symm
          · have := hb.1 x e; have := ha.1 y e2; omega
      subst hxy
      congr 1
      refine ih ha.2 hb.2 fun z => ⟨fun hz => ?_, fun hz => ?_⟩
      · rcases List.mem_cons.1 ((h z).1 (List.mem_cons_of_mem _ hz)) with e | e
        · have := ha.1 z hz; omega
        · exact e
      · rcases List.mem_cons.1 ((h z).2 (List.mem_cons_of_mem _ hz)) with e | e
        · have := hb.1 z hz; omega
        · exact e
theorem dgI_z : digI zMk = [] := by
  unfold digI digM
  rw [List.map_eq_nil_iff, List.filter_eq_nil_iff]
  intro d _
  rw [has_z]; simp
/-- One more digit behind all others. -/
theorem dgI_put {m : VMk} {d : Nat} (hd : d < 128) (h : ∀ x ∈ digI m, x < (d : Int)) : digI (putM m d) = digI m ++ [(d : Int)] := by
  apply up_ext (dgI_up _)
  · rw [List.pairwise_append]
    exact ⟨dgI_up m, by simp, fun x hx y hy => by rw [List.mem_singleton] at hy; subst hy; exact h x hx⟩
  · intro x
    rw [List.mem_append, List.mem_singleton, dgI_mem, dgI_mem]
    constructor
    · rintro ⟨h0, h1, h2⟩
      rw [has_put hd (by omega)] at h2
      simp only [Bool.or_eq_true, decide_eq_true_eq] at h2
      rcases h2 with h2 | h2
      · right; omega
      · left; exact ⟨h0, h1, h2⟩
    · rintro (⟨h0, h1, h2⟩ | rfl)
      · exact ⟨h0, h1, by rw [has_put hd (by omega), h2, Bool.or_true]⟩
      · refine ⟨by omega, by omega, ?_⟩
        rw [has_put hd (by omega)]
        simp
theorem dgI_inj {m n : VMk} (hm : OkMk m) (hn : OkMk n) (h : digI m = digI n) : m = n := has_ext hm hn fun d hd => by
  have e : ∀ k : VMk, hasM k d = decide ((d : Int) ∈ digI k) := fun k => by
    cases hh : hasM k d
    · symm
      rw [decide_eq_false_iff_not, dgI_mem]
      rintro ⟨_, _, h2⟩
      rw [Int.toNat_natCast, hh] at h2
      cases h2
    · symm
      rw [decide_eq_true_iff, dgI_mem]
      exact ⟨by omega, by omega, by rw [Int.toNat_natCast]; exact hh⟩
  rw [e m, e n, h]
/-- A wheel's marks that a photo may have: some, and below the base. -/
structure VW (b : Int) (m : VMk) : Prop where
  ok : OkMk m
  some_ : ∃ d, d < 128 ∧ hasM m d = true
  lt : ∀ d, d < 128 → hasM m d = true → (d : Int) < b
/-- No such marks have this text. -/
def NoW (b : Int) (t : List UInt8) : Prop := ∀ m, VW b m → wheelT m b ≠ t
theorem VW.ne {b : Int} {m : VMk} (h : VW b m) : digI m ≠ [] := by
  obtain ⟨d, hd, hh⟩ := h.some_
  intro e
  have : (d : Int) ∈ digI m := dgI_mem.2 ⟨by omega, by omega, by rw [Int.toNat_natCast]; exact hh⟩
  rw [e] at this
  simp at this
theorem full_VW {b : Int} (hb : 2 ≤ b ∧ b ≤ 100) : VW b (fullM b.toNat) := ⟨fullM_ok (by omega), ⟨0, by decide, by rw [has_full (by omega) (by decide)]; exact decide_eq_true (by omega)⟩, fun d hd hh => by
  rw [has_full (by omega) hd] at hh
  have := of_decide_eq_true hh
  omega⟩
theorem full_tx {b : Int} : wheelT (fullM b.toNat) b = [63] := if_pos rfl
theorem marks_parts {m : VMk} (h : digI m ≠ []) : splitA 124 [] (marksT m 128) = (digI m).map Lib.itoa := by
  unfold marksT
  rw [digP_all]
  refine split_join _ (by simpa using h) fun x hx => ?_
  obtain ⟨n, hn, rfl⟩ := List.mem_map.1 hx
  have h0 := (digI_has hn).1
  intro hm
  have := (itoa_ok _ n rfl h0).1.2.1 124 hm
  exact absurd this.2 (by decide)
theorem marks_ne {m : VMk} (h : digI m ≠ []) : marksT m 128 ≠ [63] := fun e => by
  have h1 := marks_parts h
  rw [e] at h1
  have h2 : splitA 124 [] [63] = [[63]] := by decide
  rw [h2] at h1
  have h3 : ([63] : List UInt8) ∈ (digI m).map Lib.itoa := by rw [← h1]; simp
  obtain ⟨n, hn, e⟩ := List.mem_map.1 h3
  have h4 := (itoa_ok _ n rfl (digI_has hn).1).1.2.1 63 (by rw [e]; simp)
  exact absurd h4.2 (by decide)
/-- What a word that is not the question mark tells of the marks it stands for. -/
theorem wheel_parts {b : Int} {m : VMk} {t : List UInt8} (h : VW b m) (hw : wheelT m b = t) (ht : t ≠ [63]) : splitA 124 [] t = (digI m).map Lib.itoa ∧ m.l ≠ (fullM b.toNat).l := by
  unfold wheelT at hw
  split at hw
  · exact absurd hw.symm ht
  · rename_i hf
    rw [← hw, marks_parts h.ne]
    exact ⟨rfl, hf⟩
theorem wheel_q {b : Int} {m : VMk} (h : VW b m) (hw : wheelT m b = [63]) : m = fullM b.toNat := by
  unfold wheelT at hw
  split at hw
  · rename_i hf; exact mk_inj hf
  · exact absurd hw (marks_ne h.ne)
/-! ### As the specification reads a wheel -/
structure WhS where
  k : Nat
  m : VMk
  last : Int
def WhI (b : Int) (t : List UInt8) (q : WhS) : Prop := OkMk q.m ∧ (digI q.m).map Lib.itoa = (splitA 124 [] t).take q.k ∧ (∀ x ∈ digI q.m, x ≤ q.last) ∧ (∀ x ∈ digI q.m, x < b) ∧ (q.last = -1 ∨ q.last ∈ digI q.m) ∧ q.last < b
theorem whI_0 {b : Int} (hb : 2 ≤ b ∧ b ≤ 100) (t : List UInt8) : WhI b t ⟨0, zMk, -1⟩ := ⟨okZ, by rw [dgI_z]; rfl, by rw [dgI_z]; simp, by rw [dgI_z]; simp, .inl rfl, by show (-1 : Int) < b; omega⟩
theorem take_snocT {P : List (List UInt8)} {k : Nat} (hk : k < P.length) : P.take (k + 1) = P.take k ++ [P.getD k []] := by
  rw [List.take_succ_eq_append_getElem hk]
  simp [List.getD, hk]
theorem whI_s {b : Int} {t : List UInt8} {q : WhS} {d : Int} (hb : 2 ≤ b ∧ b ≤ 100) (h : WhI b t q) (hk : q.k < (splitA 124 [] t).length) (hd : (splitA 124 [] t).getD q.k [] = Lib.itoa d) (h0 : 0 ≤ d) (h1 : ¬ d ≤ q.last) (h2 : d < b) : WhI b t ⟨q.k + 1, putM q.m d.toNat, d⟩ := by
  obtain ⟨a1, a2, a3, a4, a5, a6⟩ := h
  have hput := dgI_put (m := q.m) (d := d.toNat) (by omega) (fun x hx => by have := a3 x hx; omega)
  rw [Int.toNat_of_nonneg h0] at hput
  refine ⟨putM_ok a1 (by omega), ?_, ?_, ?_, ?_, h2⟩
  · simp only
    rw [hput, List.map_append, a2, take_snocT hk, hd]; rfl
  · intro x hx
    rw [hput] at hx
    rcases List.mem_append.1 hx with hx | hx
    · have := a3 x hx; simp only; omega
    · rw [List.mem_singleton] at hx; simp only; omega
  · intro x hx
    rw [hput] at hx
    rcases List.mem_append.1 hx with hx | hx
    · exact a4 x hx
    · rw [List.mem_singleton] at hx; omega
  · right
    rw [hput]; simp
/-- A part that is no next digit: no marks have the word. -/
theorem whI_no {b : Int} {t : List UInt8} {q : WhS} (hb : 2 ≤ b ∧ b ≤ 100) (ht : ¬ t = [63]) (h : WhI b t q) (hk : q.k < (splitA 124 [] t).length) (hn : ¬ ((numR 9 ((splitA 124 [] t).getD q.k [])).2 = true ∧ ¬ (numR 9 ((splitA 124 [] t).getD q.k [])).1 ≤ q.last ∧ (numR 9 ((splitA 124 [] t).getD q.k [])).1 < b)) : NoW b t := fun m hm hw => by
  obtain ⟨hp, _⟩ := wheel_parts hm hw ht
  obtain ⟨a1, a2, a3, a4, a5, a6⟩ := h
  rw [hp, List.length_map] at hk
  have hg : (splitA 124 [] t).getD q.k [] = Lib.itoa ((digI m).getD q.k 0) := by
    rw [hp]; simp [List.getD, hk]
  have hmem : (digI m).getD q.k 0 ∈ digI m := by rw [List.getD, List.getElem?_eq_getElem hk]; exact List.getElem_mem hk
  have hd := digI_has hmem
  have hlt := hm.lt _ (by omega) hd.2.2
  rw [hg, numR_itoa hd.1 (by omega) (by decide)] at hn
  refine hn ⟨rfl, ?_, by simp only; omega⟩
  have e : digI q.m = (digI m).take q.k := by
    rw [hp, ← List.map_take] at a2
    apply List.ext_getElem
    · have := congrArg List.length a2; simpa using this
    · intro i h1 h2
      have h3 := congrArg (fun l => l[i]?) a2
      simp only [List.getElem?_map, List.getElem?_eq_getElem h1, List.getElem?_eq_getElem h2, Option.map_some, Option.some.injEq] at h3
      have b1 := digI_has (m := q.m) (List.getElem_mem h1)
      have b2 := digI_has (m := m) (List.mem_of_mem_take (List.getElem_mem h2))
      exact itoa_inj (by omega) (by omega) h3
  rcases a5 with a5 | a5
  · simp only; omega
  · rw [e] at a5
    obtain ⟨i, hi, e2⟩ := List.getElem_of_mem a5
    rw [List.length_take] at hi
    rw [List.getElem_take] at e2
    have hup := (List.pairwise_iff_getElem.1 (dgI_up m)) i q.k (by omega) hk (by omega)
    have e3 : (digI m).getD q.k 0 = (digI m)[q.k] := by rw [List.getD, List.getElem?_eq_getElem hk]; rfl
    simp only
    rw [e3]
    omega
/-- The marks that are read iff the word is their text. -/
def RdW (b : Int) (t : List UInt8) (x : VMk × Bool) : Prop := OkMk x.1 ∧ (x.2 = true → VW b x.1 ∧ wheelT x.1 b = t) ∧ (x.2 = false → NoW b t)
theorem rdW_q {b : Int} (hb : 2 ≤ b ∧ b ≤ 100) {t : List UInt8} (ht : t = [63]) : RdW b t (fullM b.toNat, true) := by
  subst ht
  refine ⟨fullM_ok (by omega), fun _ => ⟨full_VW hb, full_tx⟩, ?_⟩
  intro e; exact absurd e (by simp)
theorem rdW_no {b : Int} {t : List UInt8} (h : NoW b t) : RdW b t (zMk, false) := by
  refine ⟨okZ, ?_, fun _ => h⟩
  intro e; exact absurd e (by simp)
theorem rdW_end {b : Int} {t : List UInt8} {q : WhS} {c : Bool} (hb : 2 ≤ b ∧ b ≤ 100) (ht : ¬ t = [63]) (h : WhI b t q) (hk : q.k = (splitA 124 [] t).length) (hc : c = true ↔ q.m.l ≠ (fullM b.toNat).l) : RdW b t (q.m, c) := by
  obtain ⟨a1, a2, a3, a4, a5, a6⟩ := h
  rw [hk, List.take_length] at a2
  have hj := join_split 124 t []
  rw [List.nil_append, ← a2] at hj
  have hv : VW b q.m := ⟨a1, by
    have h1 := splitA_pos 124 t
    rw [← a2, List.length_map] at h1
    have h2 := digI_has (m := q.m) (List.getElem_mem (h := h1))
    exact ⟨_, by omega, h2.2.2⟩, fun d hd hh => by
    have := a4 (d : Int) (dgI_mem.2 ⟨by omega, by omega, by rw [Int.toNat_natCast]; exact hh⟩)
    exact this⟩
  refine ⟨a1, fun e => ⟨hv, ?_⟩, fun e m hm hw => ?_⟩
  · have hf := hc.1 e
    unfold wheelT
    rw [if_neg hf]
    unfold marksT
    rw [digP_all]
    exact hj
  · obtain ⟨hp, hf⟩ := wheel_parts hm hw ht
    rw [← a2] at hp
    have e2 : digI q.m = digI m := by
      apply List.ext_getElem
      · have := congrArg List.length hp; simpa using this
      · intro i h1 h2
        have h3 := congrArg (fun l => l[i]?) hp
        simp only [List.getElem?_map, List.getElem?_eq_getElem h1, List.getElem?_eq_getElem h2, Option.map_some, Option.some.injEq] at h3
        have b1 := digI_has (m := q.m) (List.getElem_mem h1)
        have b2 := digI_has (m := m) (List.getElem_mem h2)
        exact itoa_inj (by omega) (by omega) h3
    have e3 := dgI_inj a1 hm.ok e2
    rw [← e3] at hf
    have := hc.2 hf
    simp only at e
    rw [e] at this
    cases this
/-! ### As the program reads a wheel -/
def RdI (b : Int) (t : List UInt8) (x : VMk × Bool) : Prop := OkMk x.1 ∧ (x.2 = true → t ≠ [] ∧ ∀ m, VW b m → wheelT m b = t → x.1 = m) ∧ (x.2 = false → NoW b t)
def MkI (t : List UInt8) (k : Nat) (m : VMk) : Prop := OkMk m ∧ (∀ d, d < 128 → (hasM m d = true ↔ ∃ j, j < k ∧ U7 ((splitA 124 [] t).getD j []) (d : Int))) ∧ ∀ j, j < k → (splitA 124 [] t).getD j [] ≠ []
theorem mkI_0 (t : List UInt8) : MkI t 0 zMk := ⟨okZ, fun d hd => by rw [has_z]; simp, fun j hj => by omega⟩
theorem U7_ne {t : List UInt8} {u : Int} (h : U7 t u) : t ≠ [] := fun e => by
  subst e
  have := h.2.2
  simp [Lib.parseUintB] at this
theorem mkI_s {t : List UInt8} {k : Nat} {m : VMk} {u : Int} (h : MkI t k m) (hu : U7 ((splitA 124 [] t).getD k []) u) : MkI t (k + 1) (putM m u.toNat) := by
  obtain ⟨a1, a2, a3⟩ := h
  have hu1 := hu.1
  have hu2 := hu.2.1
  refine ⟨putM_ok a1 (by omega), fun d hd => ?_, fun j hj => ?_⟩
  · rw [has_put (by omega) hd, Bool.or_eq_true, decide_eq_true_iff, a2 d hd]
    constructor
    · rintro (h | ⟨j, hj, h⟩)
      · refine ⟨k, by omega, ?_⟩
        have e : (d : Int) = u := by omega
        rw [e]; exact hu
      · exact ⟨j, by omega, h⟩
    · rintro ⟨j, hj, h⟩
      by_cases hjk : j = k
      · subst hjk
        have := U7_one h hu
        left; omega
      · exact .inr ⟨j, by omega, h⟩
  · by_cases hjk : j = k
    · subst hjk; exact U7_ne hu
    · exact a3 j (by omega)
theorem itoa_U7 {n : Int} (h : 0 ≤ n) (h1 : n ≤ 127) : U7 (Lib.itoa n) n := by
  have := dgT_U7 (b := 0) h h1
  unfold dgT at this
  rwa [if_neg (by omega)] at this
theorem rdI_q {b : Int} (hb : 2 ≤ b ∧ b ≤ 100) {t : List UInt8} (ht : t = [63]) : RdI b t (fullM b.toNat, true) := by
  subst ht
  refine ⟨fullM_ok (by omega), fun _ => ⟨by simp, fun m hm hw => (wheel_q hm hw).symm⟩, ?_⟩
  intro e; exact absurd e (by simp)
theorem rdI_no {b : Int} {t : List UInt8} {k : Nat} (hb : 2 ≤ b ∧ b ≤ 100) (ht : ¬ t = [63]) (hk : k < (splitA 124 [] t).length) (h : ∀ u, ¬ U7 ((splitA 124 [] t).getD k []) u) : RdI b t (zMk, false) := by
  refine ⟨okZ, ?_, fun _ m hm hw => ?_⟩
  · intro e; exact absurd e (by simp)
  · obtain ⟨hp, _⟩ := wheel_parts hm hw ht
    rw [hp, List.length_map] at hk
    have hg : (splitA 124 [] t).getD k [] = Lib.itoa ((digI m).getD k 0) := by
      rw [hp]; simp [List.getD, hk]
    have hmem : (digI m).getD k 0 ∈ digI m := by rw [List.getD, List.getElem?_eq_getElem hk]; exact List.getElem_mem hk
    have hd := digI_has hmem
    exact h _ (by rw [hg]; exact itoa_U7 hd.1 (by omega))
theorem rdI_end {b : Int} {t : List UInt8} {k : Nat} {m : VMk} (ht : ¬ t = [63]) (hk : k = (splitA 124 [] t).length) (h : MkI t k m) : RdI b t (m, true) := by
  obtain ⟨a1, a2, a3⟩ := h
  have h1 := splitA_pos 124 t
  refine ⟨a1, fun _ => ⟨fun e => ?_, fun n hn hw => ?_⟩, ?_⟩
  · subst e
    exact a3 0 (by omega) rfl
  · obtain ⟨hp, _⟩ := wheel_parts hn hw ht
    refine has_ext a1 hn.ok fun d hd => ?_
    have e : hasM m d = true ↔ hasM n d = true := by
      rw [a2 d hd]
      constructor
      · rintro ⟨j, hj, hu⟩
        rw [hk, hp, List.length_map] at hj
        have hg : (splitA 124 [] t).getD j [] = Lib.itoa ((digI n).getD j 0) := by
          rw [hp]; simp [List.getD, hj]
        have hmem : (digI n).getD j 0 ∈ digI n := by rw [List.getD, List.getElem?_eq_getElem hj]; exact List.getElem_mem hj
        have hd2 := digI_has hmem
        rw [hg] at hu
        have := U7_one hu (itoa_U7 hd2.1 (by omega))
        rw [← this, Int.toNat_natCast] at hd2
        exact hd2.2.2
      · intro hh
        have hmem : (d : Int) ∈ digI n := dgI_mem.2 ⟨by omega, by omega, by rw [Int.toNat_natCast]; exact hh⟩
        obtain ⟨j, hj, e⟩ := List.getElem_of_mem hmem
        refine ⟨j, by rw [hk, hp, List.length_map]; exact hj, ?_⟩
        have hg : (splitA 124 [] t).getD j [] = Lib.itoa (d : Int) := by
          rw [hp, ← e]; simp [List.getD, hj]
        rw [hg]
        exact itoa_U7 (by omega) (by omega)
    cases h1 : hasM m d <;> cases h2 : hasM n d <;> simp_all
  · intro e; exact absurd e (by simp)
end Go.W

/- Photos read from their texts, all wheels. -/
set_option linter.unusedVariables false
set_option linter.unusedSimpArgs false
namespace Go.W
open Go Go.Sx
theorem has_subT {m n : VMk} (hm : OkMk m) (hn : OkMk n) (h : ∀ d, d < 128 → hasM m d = true → hasM n d = true) : subM m n = true := by
  unfold subM
  rw [decide_eq_true_iff]
  have key : ∀ {x y : Int}, (0 ≤ x ∧ x < 18446744073709551616) → (0 ≤ y ∧ y < 18446744073709551616) → (∀ i, i < 64 → bitB x i = true → bitB y i = true) → bits .andNot .u64 x y = 0 := by
    intro x y hx hy hb
    obtain ⟨a, rfl⟩ := Int.eq_ofNat_of_zero_le hx.1
    obtain ⟨b, rfl⟩ := Int.eq_ofNat_of_zero_le hy.1
    show IntKind.u64.wrap ((BitVec.ofInt IntKind.u64.bits (a : Int) &&& ~~~BitVec.ofInt IntKind.u64.bits (b : Int)).toNat : Int) = 0
    have hz : (BitVec.ofInt IntKind.u64.bits (a : Int) &&& ~~~BitVec.ofInt IntKind.u64.bits (b : Int)) = 0#_ := by
      simp only [BitVec.ofInt_natCast]
      refine BitVec.eq_of_getLsbD_eq fun i hi => ?_
      simp only [BitVec.getLsbD_and, BitVec.getLsbD_not, BitVec.getLsbD_ofNat, hi, decide_true, Bool.true_and, BitVec.getLsbD_zero]
      have h1 := hb i hi
      unfold bitB at h1
      rw [Int.toNat_natCast, Int.toNat_natCast] at h1
      cases h2 : a.testBit i
      · simp
      · rw [h1 h2]; simp
    rw [hz]; rfl
  exact ⟨key hm.1 hn.1 fun i hi hb => by have := h i (by omega); rw [hasM_lo hi, hasM_lo hi] at this; exact this hb, key hm.2 hn.2 fun i hi hb => by have := h (64 + i) (by omega); rw [hasM_hi hi, hasM_hi hi] at this; exact this hb⟩
theorem wheel_inj {b : Int} {m n : VMk} (hm : VW b m) (hn : VW b n) (h : wheelT m b = wheelT n b) : m = n := by
  by_cases hq : wheelT n b = [63]
  · rw [wheel_q hm (h.trans hq), wheel_q hn hq]
  · have h1 := (wheel_parts hm h hq).1
    have h2 := (wheel_parts hn rfl hq).1
    rw [h1] at h2
    refine dgI_inj hm.ok hn.ok ?_
    apply List.ext_getElem
    · have := congrArg List.length h2; simpa using this
    · intro i a1 a2
      have h3 := congrArg (fun l => l[i]?) h2
      simp only [List.getElem?_map, List.getElem?_eq_getElem a1, List.getElem?_eq_getElem a2, Option.map_some, Option.some.injEq] at h3
      have b1 := digI_has (m := m) (List.getElem_mem a1)
      have b2 := digI_has (m := n) (List.getElem_mem a2)
      exact itoa_inj (by omega) (by omega) h3
theorem join_no {c d : UInt8} (hd : c ≠ d) : ∀ xs : List (List UInt8), (∀ x ∈ xs, c ∉ x) → c ∉ Lib.join xs [d]
  | [], _ => by simp [Lib.join, List.intercalate]
  | [x], h => by rw [Lib.join_one]; exact h x (by simp)
  | x :: y :: r, h => by
    rw [join_cons2, List.mem_append, List.mem_append, not_or, not_or]
    exact ⟨⟨h x (by simp), by simpa using hd⟩, join_no hd (y :: r) fun z hz => h z (List.mem_cons_of_mem _ hz)⟩
theorem wheel_no {b : Int} {m : VMk} : (58 : UInt8) ∉ wheelT m b := by
  unfold wheelT
  split
  · simp
  · unfold marksT
    rw [digP_all]
    refine join_no (by decide) _ fun x hx => ?_
    obtain ⟨n, hn, rfl⟩ := List.mem_map.1 hx
    intro hm
    have := (itoa_ok _ n rfl (digI_has hn).1).1.2.1 58 hm
    exact absurd this.2 (by decide)
theorem ph_parts {s : List Int} {l : List VMk} (hs : Stk s) : splitA 58 [] (phT s l) = partsF (wpart s l) s.length := by
  unfold phT
  refine split_join _ (by intro e; have h1 := congrArg List.length e; rw [partsF_len] at h1; have h2 := hs.len1; rw [List.length_nil] at h1; omega) fun x hx => ?_
  obtain ⟨i, hi, rfl⟩ := List.mem_map.1 hx
  exact wheel_no
def NoPh (s : List Int) (t : List UInt8) : Prop := ∀ p : VPh, OkPh p → validPh s p = true → phT s p.l ≠ t
theorem ph_VW {s : List Int} {p : VPh} (hp : OkPh p) (hv : validPh s p = true) {j : Nat} (hj : j < s.length) : VW (s.getD j 0) (p.l.getD j zMk) := by
  obtain ⟨_, hS, hP⟩ := vph hp hv
  have h8 := hS.len8
  exact ⟨hp j (by omega), hP.some_ j hj, hP.lt j hj⟩
theorem ph_word {s : List Int} {t : List UInt8} {p : VPh} (hp : OkPh p) (hv : validPh s p = true) (ht : phT s p.l = t) {j : Nat} (hj : j < s.length) : (splitA 58 [] t).getD (s.length - 1 - j) [] = wheelT (p.l.getD j zMk) (s.getD j 0) := by
  obtain ⟨_, hS, hP⟩ := vph hp hv
  rw [← ht, ph_parts hS, parts_getD _ (by omega)]
  unfold wpart
  rw [show s.length - 1 - (s.length - 1 - j) = j by omega]
theorem nph_len {s : List Int} {t : List UInt8} (hs : Stk s) (h : (splitA 58 [] t).length ≠ s.length) : NoPh s t := fun p hp hv ht => by
  rw [← ht, ph_parts hs, partsF_len] at h
  exact h rfl
theorem nph_w {s : List Int} {t : List UInt8} {j : Nat} (hj : j < s.length) (h : NoW (s.getD j 0) ((splitA 58 [] t).getD (s.length - 1 - j) [])) : NoPh s t := fun p hp hv ht =>
  h _ (ph_VW hp hv hj) (ph_word hp hv ht hj).symm
def zer8 : List VMk := [zMk, zMk, zMk, zMk, zMk, zMk, zMk, zMk]
theorem zer8_get {j : Nat} (h : j < 8) : zer8.getD j zMk = zMk := by
  rcases j with _ | _ | _ | _ | _ | _ | _ | _ | j <;> first | rfl | omega
structure PhS where
  k : Nat
  l : List VMk
def OkL (l : List VMk) : Prop := ∀ i, i < 8 → OkMk (l.getD i zMk)
theorem okL_0 : OkL zer8 := fun i hi => by rw [zer8_get hi]; exact okZ
theorem setL {l : List VMk} (h8 : l.length = 8) {k : Nat} (hk : k < 8) (m : VMk) (j : Nat) : (l.set k m).getD j zMk = if j = k then m else l.getD j zMk := by
  by_cases e : j = k
  · subst e; rw [if_pos rfl]; simp [List.getD, h8, hk]
  · rw [if_neg e]; simp [List.getD, List.getElem?_set, Ne.symm e]
theorem okL_s {l : List VMk} (h8 : l.length = 8) {k : Nat} (hk : k < 8) {m : VMk} (h : OkL l) (hm : OkMk m) : OkL (l.set k m) := fun i hi => by
  rw [setL h8 hk]
  split
  · exact hm
  · exact h i hi
def PhB (s : List Int) (t : List UInt8) (l : List VMk) (k : Nat) : Prop := ∀ j, j < 8 → (j < k → VW (s.getD j 0) (l.getD j zMk) ∧ wheelT (l.getD j zMk) (s.getD j 0) = (splitA 58 [] t).getD (s.length - 1 - j) []) ∧ (k ≤ j → l.getD j zMk = zMk)
theorem phB_0 (s : List Int) (t : List UInt8) : PhB s t zer8 0 := fun j hj => ⟨fun h => by omega, fun _ => zer8_get hj⟩
theorem phB_s {s : List Int} {t : List UInt8} {l : List VMk} {k : Nat} {m : VMk} (h8 : l.length = 8) (hk : k < 8) (h : PhB s t l k) (hm : VW (s.getD k 0) m ∧ wheelT m (s.getD k 0) = (splitA 58 [] t).getD (s.length - 1 - k) []) : PhB s t (l.set k m) (k + 1) := fun j hj => by
  rw [setL h8 hk]
  split
  · rename_i e; subst e; exact ⟨fun _ => hm, fun h => by omega⟩
  · exact ⟨fun a => (h j hj).1 (by omega), fun a => (h j hj).2 (by omega)⟩
theorem phB_end {s : List Int} {t : List UInt8} {l : List VMk} (hv : validStack s = true) (h8 : l.length = 8) (hl : (splitA 58 [] t).length = s.length) (h : PhB s t l s.length) : validPh s (phot l) = true ∧ phT s l = t := by
  have hs := stk hv
  have hs8 := hs.len8
  constructor
  · unfold validPh
    rw [hv, Bool.true_and]
    unfold photoOk
    rw [List.all_eq_true]
    intro j hj
    have hj : j < 8 := List.mem_range.1 hj
    rw [phot_l h8]
    unfold phAt
    by_cases hjs : j < s.length
    · obtain ⟨hw, _⟩ := (h j hj).1 hjs
      have hb := hs.bases j hjs
      rw [if_pos hjs, Bool.and_eq_true]
      constructor
      · rw [Bool.not_eq_true', decide_eq_false_iff_not]
        intro e
        obtain ⟨d, hd, hh⟩ := hw.some_
        have : l.getD j zMk = zMk := mk_inj e
        rw [this, has_z] at hh
        cases hh
      · refine has_subT hw.ok (fullM_ok (by omega)) fun d hd hh => ?_
        have := hw.lt d hd hh
        rw [has_full (by omega) hd]
        exact decide_eq_true (by omega)
    · rw [if_neg hjs, (h j hj).2 (by omega)]; rfl
  · have hj := join_split 58 t []
    rw [List.nil_append] at hj
    rw [← hj]
    unfold phT
    congr 1
    apply List.ext_getElem
    · rw [partsF_len, hl]
    · intro i h1 h2
      rw [partsF_len] at h1
      have h3 := ((h (s.length - 1 - i) (by omega)).1 (by omega)).2
      rw [show s.length - 1 - (s.length - 1 - i) = i by omega] at h3
      have h4 : (partsF (wpart s l) s.length)[i] = wpart s l i := by simp [partsF]
      rw [h4]
      unfold wpart
      rw [h3]
      simp [List.getD, h2]
def PhU (s : List Int) (t : List UInt8) (l : List VMk) (k : Nat) : Prop := ∀ j, j < 8 → (s.length - k ≤ j → j < s.length → (splitA 58 [] t).getD (s.length - 1 - j) [] ≠ [] ∧ ∀ m, VW (s.getD j 0) m → wheelT m (s.getD j 0) = (splitA 58 [] t).getD (s.length - 1 - j) [] → l.getD j zMk = m) ∧ ((j < s.length - k ∨ s.length ≤ j) → l.getD j zMk = zMk)
theorem phU_0 (s : List Int) (t : List UInt8) : PhU s t zer8 0 := fun j hj => ⟨fun h => by omega, fun _ => zer8_get hj⟩
theorem phU_s {s : List Int} {t : List UInt8} {l : List VMk} {k q : Nat} {x : VMk × Bool} (h8 : l.length = 8) (hs : s.length ≤ 8) (hk : k < s.length) (hq : q = s.length - 1 - k) (h : PhU s t l k) (hx : RdI (s.getD q 0) ((splitA 58 [] t).getD k []) x) (hb : x.2 = true) : PhU s t (l.set q x.1) (k + 1) := fun j hj => by
  subst hq
  rw [setL h8 (by omega)]
  split
  · rename_i e
    subst e
    refine ⟨fun _ _ => ?_, fun h => by omega⟩
    rw [show s.length - 1 - (s.length - 1 - k) = k by omega]
    exact hx.2.1 hb
  · exact ⟨fun a b => (h j hj).1 (by omega) b, fun a => (h j hj).2 (by omega)⟩
theorem nph_end {s : List Int} {t : List UInt8} {l : List VMk} (h8 : l.length = 8) (h : PhU s t l s.length) (hn : ¬ phTx s (phot l) = t) : NoPh s t := fun p hp hv ht => by
  obtain ⟨hvs, hS, hP⟩ := vph hp hv
  have hs8 := hS.len8
  have e : phot l = p := by
    apply ph_inj
    rw [phot_l h8]
    apply List.ext_getElem (by rw [h8, ph_len])
    intro j h1 h2
    have hj : j < 8 := by omega
    have key : l.getD j zMk = p.l.getD j zMk := by
      by_cases hjs : j < s.length
      · exact ((h j hj).1 (by omega) hjs).2 _ (ph_VW hp hv hjs) (ph_word hp hv ht hjs).symm
      · rw [(h j hj).2 (.inr (by omega)), hP.hi j (by omega) hj]
    rw [List.getD, List.getD, List.getElem?_eq_getElem h1, List.getElem?_eq_getElem h2] at key
    exact key
  rw [e, phTx_t hv] at hn
  exact hn ht
def RdPh (s : List Int) (t : List UInt8) (x : VPh × Int) : Prop := OkPh x.1 ∧ ((validStack s = false ∧ x = (zPh, 1)) ∨ (validStack s = true ∧ ((x.2 = 0 ∧ validPh s x.1 = true ∧ phT s x.1.l = t) ∨ (x.2 = 5 ∧ x.1 = zPh ∧ NoPh s t))))
theorem okZPh : OkPh zPh := fun i hi => by
  have : zPh.l.getD i zMk = zMk := zer8_get hi
  rw [this]; exact okZ
theorem rdPh_v {s : List Int} {t : List UInt8} (h : validStack s = false) : RdPh s t (zPh, 1) := ⟨okZPh, .inl ⟨h, rfl⟩⟩
theorem rdPh_no {s : List Int} {t : List UInt8} (h : validStack s = true) (h1 : NoPh s t) : RdPh s t (zPh, 5) := ⟨okZPh, .inr ⟨h, .inr ⟨rfl, rfl, h1⟩⟩⟩
theorem okPhot {l : List VMk} (h8 : l.length = 8) (h : OkL l) : OkPh (phot l) := fun i hi => by rw [phot_l h8]; exact h i hi
theorem rdPh_s {s : List Int} {t : List UInt8} {l : List VMk} (h : validStack s = true) (h8 : l.length = 8) (hok : OkL l) (hl : (splitA 58 [] t).length = s.length) (hb : PhB s t l s.length) : RdPh s t (phot l, 0) := by
  obtain ⟨a, b⟩ := phB_end h h8 hl hb
  exact ⟨okPhot h8 hok, .inr ⟨h, .inl ⟨rfl, a, by rw [phot_l h8]; exact b⟩⟩⟩
theorem rdPh_i {s : List Int} {t : List UInt8} {l : List VMk} (h : validStack s = true) (h8 : l.length = 8) (hok : OkL l) (hl : (splitA 58 [] t).length = s.length) (hu : PhU s t l s.length) (ht : phTx s (phot l) = t) : RdPh s t (phot l, 0) := by
  refine ⟨okPhot h8 hok, .inr ⟨h, .inl ⟨rfl, ?_⟩⟩⟩
  cases hv : validPh s (phot l)
  · exfalso
    rw [phTx_f hv] at ht
    subst ht
    have hs := stk h
    have h1 := hs.len1
    have hl : ([[]] : List (List UInt8)).length = s.length := hl
    simp only [List.length_cons, List.length_nil] at hl
    have h2 := ((hu 0 (by omega)).1 (by omega) (by omega)).1
    rw [show s.length - 1 - 0 = 0 by omega] at h2
    exact h2 rfl
  · exact ⟨rfl, by rw [← ht]; exact (phTx_t hv).symm⟩
theorem rdPh_n {s : List Int} {t : List UInt8} {l : List VMk} (h : validStack s = true) (h8 : l.length = 8) (hu : PhU s t l s.length) (ht : ¬ phTx s (phot l) = t) : RdPh s t (zPh, 5) := rdPh_no h (nph_end h8 hu ht)
theorem ph_one {s : List Int} {p q : VPh} (hp : OkPh p) (hq : OkPh q) (h1 : validPh s p = true) (h2 : validPh s q = true) (h : phT s p.l = phT s q.l) : p = q := by
  obtain ⟨hvs, hS, hP⟩ := vph hp h1
  obtain ⟨_, _, hQ⟩ := vph hq h2
  apply ph_inj
  apply List.ext_getElem (by rw [ph_len, ph_len])
  intro j a1 a2
  have hj : j < 8 := a1
  have key : p.l.getD j zMk = q.l.getD j zMk := by
    by_cases hjs : j < s.length
    · have b1 := ph_word hp h1 h hjs
      have b2 := ph_word hq h2 rfl hjs
      exact wheel_inj (ph_VW hp h1 hjs) (ph_VW hq h2 hjs) (b1.symm.trans b2)
    · rw [hP.hi j (by omega) hj, hQ.hi j (by omega) hj]
  rw [List.getD, List.getD, List.getElem?_eq_getElem a1, List.getElem?_eq_getElem a2] at key
  exact key
theorem rdPh_one {s : List Int} {t : List UInt8} {x y : VPh × Int} (hx : RdPh s t x) (hy : RdPh s t y) : x = y := by
  obtain ⟨ox, hx⟩ := hx
  obtain ⟨oy, hy⟩ := hy
  rcases hx with ⟨a, rfl⟩ | ⟨a, hx⟩
  · rcases hy with ⟨_, rfl⟩ | ⟨b, _⟩
    · rfl
    · rw [a] at b; cases b
  · rcases hy with ⟨b, _⟩ | ⟨b, hy⟩
    · rw [a] at b; cases b
    · rcases hx with ⟨c1, c2, c3⟩ | ⟨c1, c2, c3⟩ <;> rcases hy with ⟨d1, d2, d3⟩ | ⟨d1, d2, d3⟩
      · exact Prod.ext (ph_one ox oy c2 d2 (c3.trans d3.symm)) (c1.trans d1.symm)
      · exact absurd c3 (d3 x.1 ox c2)
      · exact absurd d3 (c3 y.1 oy d2)
      · exact Prod.ext (c2.trans d2.symm) (c1.trans d1.symm)
end Go.W

/- What these functions of the program hand back, each proved by walking its operations. -/
set_option linter.unusedVariables false
set_option linter.unusedSimpArgs false
set_option maxRecDepth 4000
namespace Go.Proofs.YtejedjgajcjejaaDoor
open Go Go.Sx Go.RowKit Go.W Go.Proofs
attribute [local irreducible] Ex ExL ExD Op1 Free RetQ MutQ Reads CellO SegO LoadsAs
theorem e_38 : Enters Tryd.prog 38 := Enters.of Tryd.func38 rfl
set_option maxHeartbeats 1000000 in
theorem c_l05ReadWheel (t : List UInt8) (b : Int) (hb : 2 ≤ b ∧ b ≤ 100) (hl : t.length ≤ 1048576) : Ret Tryd.prog 38 [sv t, .int .u8 b] (fun w => True) (fun x : VMk × Bool => .tuple #[.agg (encMk x.1).toArray, .bool x.2]) (fun x => []) (fun x => RdW b t x) := by
  refine Ret.of e_38 Tryd.func38 rfl Tryd.ntmps38 rfl rfl (fun w hpre => ?_)
  have hpp := splitA_pos 124 t
  have hpn := splitA_len 124 t []
  have hm0 : maxLen = 9223372036854775807 := rfl
  refine Ex.regSeq (ExL.pures 0 rfl ?_)
  refine ExL.op rfl (op_alloc rfl rfl rfl rfl rfl (fun b1 => ?_))
  refine ExL.pures 1 rfl ?_
  refine ExL.nil ?_
  refine Ex.seq ?_
  refine Ex.regSeq (ExL.pures 1 rfl ?_)
  refine ExL.free (fr_eqlS (l := t) (r := [63]) rfl rfl rfl) rfl rfl rfl ?_
  refine ExL.nil ?_
  refine Ex.cond rfl (fun hb2 => ?_) (fun hb2 => ?_)
  · replace hb2 := of_decide_eq_true hb2
    refine Ex.regSeq (ExL.pures 1 rfl ?_)
    refine ExL.op rfl (op_ret rfl rfl rfl (c_l05Full b (by omega)) (fun _ _ => trivial) rfl rfl (fun x3 hx3 => ?_))
    refine ExL.op rfl (op_storeC (i := 0) rfl rfl rfl rfl rfl rfl rfl rfl rfl rfl ?_)
    refine ExL.pures 1 rfl ?_
    refine ExL.nil ?_
    refine Ex.ret ?_
    refine RetQ.mk (fullM b.toNat, true) rfl (.cell rfl (.many rfl rfl rfl (SegO.whole (i := 0) rfl)) (.tmp rfl .nil)) (rfl) [] (rfl) rfl (rdW_q hb (by assumption))
  · replace hb2 := of_decide_eq_false hb2
    refine Ex.skip ?_
    refine Ex.regSeq (ExL.pures 0 rfl ?_)
    refine ExL.free (fr_build rfl rfl rfl rfl) rfl rfl rfl ?_
    refine ExL.op rfl (op_alloc rfl rfl rfl rfl rfl (fun b4 => ?_))
    refine ExL.op rfl (op_storeC (i := 0) rfl rfl rfl rfl rfl rfl rfl rfl rfl rfl ?_)
    refine ExL.nil ?_
    refine Ex.regSeq (ExL.pures 1 rfl ?_)
    refine ExL.op rfl (op_ret rfl rfl rfl (c_l01Split t 124 124 (by decide) (by omega)) (fun _ _ => trivial) rfl rfl (fun x5 hx5 => ?_))
    refine ExL.pures 1 rfl ?_
    refine ExL.nil ?_
    refine Ex.regSeq (ExL.pures 1 rfl ?_)
    refine ExL.nil ?_
    refine Ex.seq ?_
    refine Ex.regSeq (ExL.pures 1 rfl ?_)
    refine ExL.nil ?_
    refine Ex.block ?_
    refine Ex.loopK (X := WhS) (fun q => [(8, .int .i64 q.last), (9, .int .i64 q.k)]) (fun q => [.blk b4 (encMk q.m) 36]) (fun q => q.k ≤ (splitA 124 [] t).length ∧ WhI b t q) (fun q => (splitA 124 [] t).length - q.k) (⟨0, zMk, -1⟩ : WhS) [(1, _), (4, _), (6, _), (7, _)] [_, _] 3 [1, 0, 2] ⟨rfl, rfl, trivial⟩ ⟨rfl, rfl, rfl, rfl, trivial⟩ (rfl) rfl ⟨Nat.zero_le _, whI_0 hb t⟩ (fun q hI => ?_)
    have hI : q.k ≤ (splitA 124 [] t).length ∧ WhI b t q := hI
    obtain ⟨hqk, hqi⟩ := hI
    refine Ex.seq ?_
    refine Ex.regSeq (ExL.pures 3 rfl ?_)
    refine ExL.lss rfl rfl rfl rfl rfl rfl (fun h6 => ?_) (fun h6 => ?_)
    · refine ExL.nil ?_
      refine Ex.cond_t rfl ?_
      refine Ex.skip ?_
      refine Ex.seq ?_
      refine Ex.block ?_
      have hpl := piece_le 124 t q.k
      have hnb := numR_bd 9 ((splitA 124 [] t).getD q.k []) (by decide)
      refine Ex.regSeq (ExL.pures 2 rfl ?_)
      refine ExL.free (fr_indexAddrR (sz := 1) 1 rfl rfl rfl rfl rfl rfl (by omega)) rfl rfl rfl ?_
      refine ExL.free (fr_load rfl rfl rfl rfl (by first | exact cellN (Reads.row (i := 1) rfl) eSt_len ([] : List UInt8) 0 rfl (by omega) rfl | exact cellF (Reads.row (i := 1) rfl) eSt_len ([] : List UInt8) 0 rfl (by omega) rfl)) rfl rfl rfl ?_
      refine ExL.op rfl (op_ret rfl rfl rfl (c_l01Number ((splitA 124 [] t).getD q.k []) (by omega)) (fun _ _ => trivial) rfl rfl (fun x7 hx7 => ?_))
      refine ExL.pures 5 rfl ?_
      refine ExL.nil ?_
      refine Ex.seq ?_
      refine Ex.regSeq (ExL.pures 3 rfl ?_)
      refine ExL.bool (d := 35) rfl (fun hb8 => ?_) (fun hb8 => ?_)
      · replace hb8 := nb_t hb8
        refine ExL.pures 10 rfl ?_
        refine ExL.nil ?_
        refine Ex.cond_t rfl ?_
        refine Ex.regSeq (ExL.pures 0 rfl ?_)
        refine ExL.free (fr_build rfl rfl rfl rfl) rfl rfl rfl ?_
        refine ExL.op rfl (op_storeC (i := 2) rfl rfl rfl rfl rfl rfl rfl rfl rfl rfl ?_)
        refine ExL.pures 1 rfl ?_
        refine ExL.nil ?_
        refine Ex.ret ?_
        refine RetQ.mk (zMk, false) rfl (.cell rfl (.many rfl rfl rfl (SegO.whole (i := 2) rfl)) (.tmp rfl .nil)) (rfl) [] (rfl) rfl (rdW_no (whI_no hb (by assumption) hqi (by omega) (by rintro ⟨h1, h2, h3⟩; first | omega | simp_all)))
      · replace hb8 := nb_f hb8
        refine ExL.pures 2 rfl ?_
        refine ExL.leq rfl rfl rfl rfl rfl rfl (fun h9 => ?_) (fun h9 => ?_)
        · refine ExL.pures 7 rfl ?_
          refine ExL.nil ?_
          refine Ex.cond_t rfl ?_
          refine Ex.regSeq (ExL.pures 0 rfl ?_)
          refine ExL.free (fr_build rfl rfl rfl rfl) rfl rfl rfl ?_
          refine ExL.op rfl (op_storeC (i := 2) rfl rfl rfl rfl rfl rfl rfl rfl rfl rfl ?_)
          refine ExL.pures 1 rfl ?_
          refine ExL.nil ?_
          refine Ex.ret ?_
          refine RetQ.mk (zMk, false) rfl (.cell rfl (.many rfl rfl rfl (SegO.whole (i := 2) rfl)) (.tmp rfl .nil)) (rfl) [] (rfl) rfl (rdW_no (whI_no hb (by assumption) hqi (by omega) (by rintro ⟨h1, h2, h3⟩; first | omega | simp_all)))
        · refine ExL.pures 4 rfl ?_
          refine ExL.free (by first | exact fr_conv64 rfl rfl rfl rfl (by omega) | exact fr_conv rfl rfl rfl rfl) rfl rfl rfl ?_
          refine ExL.geq rfl rfl rfl rfl rfl rfl (fun h10 => ?_) (fun h10 => ?_)
          · refine ExL.pures 1 rfl ?_
            refine ExL.nil ?_
            refine Ex.cond_t rfl ?_
            refine Ex.regSeq (ExL.pures 0 rfl ?_)
            refine ExL.free (fr_build rfl rfl rfl rfl) rfl rfl rfl ?_
            refine ExL.op rfl (op_storeC (i := 2) rfl rfl rfl rfl rfl rfl rfl rfl rfl rfl ?_)
            refine ExL.pures 1 rfl ?_
            refine ExL.nil ?_
            refine Ex.ret ?_
            refine RetQ.mk (zMk, false) rfl (.cell rfl (.many rfl rfl rfl (SegO.whole (i := 2) rfl)) (.tmp rfl .nil)) (rfl) [] (rfl) rfl (rdW_no (whI_no hb (by assumption) hqi (by omega) (by rintro ⟨h1, h2, h3⟩; first | omega | simp_all)))
          · refine ExL.pures 1 rfl ?_
            refine ExL.nil ?_
            refine Ex.cond_f rfl ?_
            refine Ex.skip ?_
            refine Ex.regSeq (ExL.pures 0 rfl ?_)
            refine ExL.free (fr_loadN rfl rfl rfl rfl rfl (SegO.whole (i := 0) rfl)) rfl rfl rfl ?_
            refine ExL.pures 1 rfl ?_
            refine ExL.op rfl (op_ret rfl rfl rfl (c_l05Put q.m hqi.1 (numR 9 ((splitA 124 [] t).getD q.k [])).1 (by omega)) (fun _ _ => trivial) rfl rfl (fun x11 hx11 => ?_))
            refine ExL.op rfl (op_storeC (i := 0) rfl rfl rfl rfl rfl rfl rfl rfl rfl rfl ?_)
            refine ExL.nil ?_
            refine Ex.region (ExL.pures 2 rfl ?_)
            refine ExL.nil ?_
            refine Ex.region (ExL.pures 1 rfl ?_)
            refine ExL.free (by first | exact fr_add64 rfl rfl rfl (by omega) | exact fr_add rfl rfl rfl) rfl rfl rfl ?_
            refine ExL.pures 1 rfl ?_
            refine ExL.nil ?_
            refine Hand.mk (⟨q.k + 1, putM q.m ((numR 9 ((splitA 124 [] t).getD q.k [])).1).toNat, (numR 9 ((splitA 124 [] t).getD q.k [])).1⟩ : WhS) 3 [0, 1, 2] ⟨rfl, rfl, trivial⟩ ⟨rfl, rfl, rfl, rfl, trivial⟩ (rfl) rfl (⟨by dsimp only; omega, whI_s hb hqi (by omega) (numR_true (by assumption)).1 (numR_true (by assumption)).2 (by omega) (by omega)⟩) (by dsimp only; omega)
    · refine ExL.nil ?_
      refine Ex.cond_f rfl ?_
      refine Ex.exit ?_
      refine Ex.drawSeqI [0, 1] rfl rfl ?_
      refine ExD.take (i := 0) rfl (by kernel_rfl) (fr_loadN rfl rfl rfl rfl rfl (SegO.whole (i := 0) rfl)) ((List.Sublist.cons_cons _ (List.Sublist.cons_cons _ (List.nil_sublist _)))) rfl rfl rfl ?_
      refine ExD.take (i := 1) rfl (by kernel_rfl) (fr_loadN rfl rfl rfl rfl rfl (SegO.whole (i := 0) rfl)) ((List.Sublist.cons_cons _ (List.Sublist.cons_cons _ (List.nil_sublist _)))) rfl rfl rfl ?_
      refine ExD.take (i := 2) rfl (by kernel_rfl) (pureVal_ok rfl) ((List.Sublist.cons_cons _ (List.Sublist.cons_cons _ (List.nil_sublist _)))) rfl rfl rfl ?_
      refine ExD.op (i := 3) rfl (by kernel_rfl) rfl (op_ret rfl rfl rfl (c_l05Full b (by omega)) (fun _ _ => trivial) rfl rfl (fun x12 hx12 => ⟨(List.Sublist.cons_cons _ (List.Sublist.cons_cons _ (List.nil_sublist _))), ?_⟩))
      refine ExD.take (i := 4) rfl (by kernel_rfl) (fr_neq_ints q.m.l (fullM (b).toNat).l rfl rfl rfl rfl rfl rfl rfl rfl rfl rfl) ((List.Sublist.cons_cons _ (List.Sublist.cons_cons _ (List.nil_sublist _)))) rfl rfl rfl ?_
      refine ExD.op (i := 5) rfl (by kernel_rfl) rfl (op_storeC (i := 2) rfl rfl rfl rfl rfl rfl rfl rfl rfl rfl ⟨(List.Sublist.cons_cons _ (List.Sublist.cons_cons _ (List.nil_sublist _))), ?_⟩)
      refine ExD.take (i := 6) rfl (by kernel_rfl) (pureVal_ok rfl) ((List.Sublist.cons_cons _ (List.Sublist.cons_cons _ (List.nil_sublist _)))) rfl rfl rfl ?_
      refine ExD.done (by kernel_rfl) ?_
      refine Ex.ret ?_
      refine RetQ.mk (q.m, !decide (q.m.l = (fullM b.toNat).l)) rfl (.cell rfl (.many rfl rfl rfl (SegO.whole (i := 2) rfl)) (.tmp rfl .nil)) (rfl) [] (rfl) rfl (rdW_end hb (by assumption) hqi (by omega) (by simp))
theorem e_41 : Enters Tryd.prog 41 := Enters.of Tryd.func41 rfl
set_option maxHeartbeats 1000000 in
theorem c_readMarks (t : List UInt8) (b : Int) (hb : 2 ≤ b ∧ b ≤ 100) (hl : t.length ≤ 1048576) : Ret Tryd.prog 41 [sv t, .int .i64 b] (fun w => RdO 0 1 2 w) (fun x : VMk × Bool => .tuple #[.agg (encMk x.1).toArray, .bool x.2]) (fun x => []) (fun x => RdI b t x) := by
  refine Ret.of e_41 Tryd.func41 rfl Tryd.ntmps41 rfl rfl (fun w hpre => ?_)
  have hrd := hpre
  have hpp := splitA_pos 124 t
  have hpn := splitA_len 124 t []
  have hm0 : maxLen = 9223372036854775807 := rfl
  refine Ex.regSeq (ExL.pures 0 rfl ?_)
  refine ExL.op rfl (op_alloc rfl rfl rfl rfl rfl (fun b1 => ?_))
  refine ExL.pures 1 rfl ?_
  refine ExL.nil ?_
  refine Ex.seq ?_
  refine Ex.regSeq (ExL.pures 1 rfl ?_)
  refine ExL.free (fr_eqlS (l := t) (r := [63]) rfl rfl rfl) rfl rfl rfl ?_
  refine ExL.nil ?_
  refine Ex.cond rfl (fun hb2 => ?_) (fun hb2 => ?_)
  · replace hb2 := of_decide_eq_true hb2
    refine Ex.regSeq (ExL.pures 1 rfl ?_)
    refine ExL.op rfl (op_ret rfl rfl rfl (c_below b (by omega)) (fun _ _ => trivial) rfl rfl (fun x3 hx3 => ?_))
    refine ExL.op rfl (op_storeC (i := 0) rfl rfl rfl rfl rfl rfl rfl rfl rfl rfl ?_)
    refine ExL.pures 1 rfl ?_
    refine ExL.nil ?_
    refine Ex.ret ?_
    refine RetQ.mk (fullM b.toNat, true) rfl (.cell rfl (.many rfl rfl rfl (SegO.whole (i := 0) rfl)) (.tmp rfl .nil)) (rfl) [] (rfl) rfl (rdI_q hb (by assumption))
  · replace hb2 := of_decide_eq_false hb2
    refine Ex.skip ?_
    refine Ex.regSeq (ExL.pures 0 rfl ?_)
    refine ExL.free (fr_build rfl rfl rfl rfl) rfl rfl rfl ?_
    refine ExL.op rfl (op_alloc rfl rfl rfl rfl rfl (fun b4 => ?_))
    refine ExL.op rfl (op_storeC (i := 0) rfl rfl rfl rfl rfl rfl rfl rfl rfl rfl ?_)
    refine ExL.nil ?_
    refine Ex.seq ?_
    refine Ex.regSeq (ExL.pures 1 rfl ?_)
    refine ExL.op rfl (op_ret rfl rfl rfl (c_Split t 124 (by omega)) (fun w hw => RdO.keep hrd hw) rfl rfl (fun x5 hx5 => ?_))
    refine ExL.pures 2 rfl ?_
    refine ExL.nil ?_
    refine Ex.block ?_
    refine Ex.loopK (X := WhS) (fun q => [(19, .int .i64 q.k)]) (fun q => [.blk b4 (encMk q.m) 36]) (fun q => q.k ≤ (splitA 124 [] t).length ∧ MkI t q.k q.m) (fun q => (splitA 124 [] t).length - q.k) (⟨0, zMk, 0⟩ : WhS) [(4, _), (6, _), (17, _), (18, _)] [_, _] 3 [1, 0, 2] ⟨rfl, trivial⟩ ⟨rfl, rfl, rfl, rfl, trivial⟩ (rfl) rfl ⟨Nat.zero_le _, mkI_0 t⟩ (fun q hI => ?_)
    have hI : q.k ≤ (splitA 124 [] t).length ∧ MkI t q.k q.m := hI
    obtain ⟨hqk, hqi⟩ := hI
    refine Ex.regSeq (ExL.pures 0 rfl ?_)
    refine ExL.lss rfl rfl rfl rfl rfl rfl (fun h6 => ?_) (fun h6 => ?_)
    · refine ExL.nil ?_
      refine Ex.seq ?_
      refine Ex.cond_t rfl ?_
      refine Ex.skip ?_
      refine Ex.seq ?_
      refine Ex.block ?_
      have hpl := piece_le 124 t q.k
      refine Ex.regSeq (ExL.pures 0 rfl ?_)
      refine ExL.free (fr_indexAddr (sz := 1) rfl rfl rfl rfl rfl rfl (by omega)) rfl rfl rfl ?_
      refine ExL.free (fr_load rfl rfl rfl rfl (by first | exact cellN (Reads.row (i := 1) rfl) eSt_len ([] : List UInt8) 0 rfl (by omega) rfl | exact cellF (Reads.row (i := 1) rfl) eSt_len ([] : List UInt8) 0 rfl (by omega) rfl)) rfl rfl rfl ?_
      refine ExL.pures 1 rfl ?_
      refine ExL.nil ?_
      refine Ex.regSeq (ExL.pures 1 rfl ?_)
      refine ExL.op rfl (op_ret rfl rfl rfl (c_ParseUint ((splitA 124 [] t).getD q.k []) (by omega)) (fun w hw => RdO.keep hrd hw) rfl rfl (fun x7 hx7 => ?_))
      have hbx7 : 0 ≤ x7.1 ∧ x7.1 ≤ 127 := hx7.1
      refine ExL.pures 5 rfl ?_
      refine ExL.nil ?_
      refine Ex.seq ?_
      refine Ex.regSeq (ExL.pures 1 rfl ?_)
      refine ExL.free (fr_neq_err rfl rfl rfl rfl) rfl rfl rfl ?_
      refine ExL.nil ?_
      refine Ex.cond rfl (fun hb8 => ?_) (fun hb8 => ?_)
      · replace hb8 := nb_t hb8
        refine Ex.regSeq (ExL.pures 0 rfl ?_)
        refine ExL.free (fr_build rfl rfl rfl rfl) rfl rfl rfl ?_
        refine ExL.op rfl (op_storeC (i := 2) rfl rfl rfl rfl rfl rfl rfl rfl rfl rfl ?_)
        refine ExL.pures 1 rfl ?_
        refine ExL.nil ?_
        refine Ex.ret ?_
        refine RetQ.mk (zMk, false) rfl (.cell rfl (.many rfl rfl rfl (SegO.whole (i := 2) rfl)) (.tmp rfl .nil)) (rfl) [] (rfl) rfl (rdI_no hb (by assumption) (k := q.k) (by omega) (hx7.2.2 (by assumption)))
      · replace hb8 := nb_f hb8
        refine Ex.skip ?_
        refine Ex.region (ExL.pures 0 rfl ?_)
        refine ExL.free (fr_loadN rfl rfl rfl rfl rfl (SegO.whole (i := 0) rfl)) rfl rfl rfl ?_
        refine ExL.pures 1 rfl ?_
        refine ExL.free (by first | exact fr_conv64 rfl rfl rfl rfl (by omega) | exact fr_conv rfl rfl rfl rfl) rfl rfl rfl ?_
        refine ExL.op rfl (op_ret rfl rfl rfl (c_with q.m hqi.1 x7.1 (by omega)) (fun _ _ => trivial) rfl rfl (fun x9 hx9 => ?_))
        refine ExL.op rfl (op_storeC (i := 0) rfl rfl rfl rfl rfl rfl rfl rfl rfl rfl ?_)
        refine ExL.nil ?_
        refine Ex.region (ExL.pures 0 rfl ?_)
        refine ExL.free (by first | exact fr_add64 rfl rfl rfl (by omega) | exact fr_add rfl rfl rfl) rfl rfl rfl ?_
        refine ExL.pures 1 rfl ?_
        refine ExL.nil ?_
        refine Hand.mk (⟨q.k + 1, putM q.m (x7.1).toNat, 0⟩ : WhS) 3 [0, 1, 2] ⟨rfl, trivial⟩ ⟨rfl, rfl, rfl, rfl, trivial⟩ (rfl) rfl (⟨by dsimp only; omega, mkI_s hqi (hx7.2.1 (by assumption))⟩) (by dsimp only; omega)
    · refine ExL.nil ?_
      refine Ex.seq ?_
      refine Ex.cond_f rfl ?_
      refine Ex.exit ?_
      refine Ex.regSeq (ExL.pures 0 rfl ?_)
      refine ExL.free (fr_loadN rfl rfl rfl rfl rfl (SegO.whole (i := 0) rfl)) rfl rfl rfl ?_
      refine ExL.op rfl (op_storeC (i := 2) rfl rfl rfl rfl rfl rfl rfl rfl rfl rfl ?_)
      refine ExL.pures 1 rfl ?_
      refine ExL.nil ?_
      refine Ex.ret ?_
      refine RetQ.mk (q.m, true) rfl (.cell rfl (.many rfl rfl rfl (SegO.whole (i := 2) rfl)) (.tmp rfl .nil)) (rfl) [] (rfl) rfl (rdI_end (by assumption) (k := q.k) (by omega) hqi)
theorem e_17 : Enters Tryd.prog 17 := Enters.of Tryd.func17 rfl
set_option maxHeartbeats 1000000 in
theorem c_sReadPhoto (s : List Int) (hu : Nums 255 s) (As : Option Addr) (cs : Nat) (hls : s.length ≤ maxLen) (t : List UInt8) (hl : t.length ≤ 1048576) : Ret Tryd.prog 17 [.slice As s.length cs, sv t] (fun w => Rd w As (s.flatMap (eI .u8))) (fun x : VPh × Int => .tuple #[.agg (encPh x.1).toArray, .int .i64 x.2]) (fun x => []) (fun x => RdPh s t x) := by
  refine Ret.of e_17 Tryd.func17 rfl Tryd.ntmps17 rfl rfl (fun w hpre => ?_)
  have hs := hpre.base
  have hpn := splitA_len 58 t []
  have hm0 : maxLen = 9223372036854775807 := rfl
  refine Ex.regSeq (ExL.pures 0 rfl ?_)
  refine ExL.op rfl (op_alloc rfl rfl rfl rfl rfl (fun b1 => ?_))
  refine ExL.pures 1 rfl ?_
  refine ExL.nil ?_
  refine Ex.seq ?_
  refine Ex.regSeq (ExL.pures 1 rfl ?_)
  refine ExL.op rfl (op_ret rfl rfl rfl (c_l01Ok _ (by assumption) _ _ (by first | assumption | omega | (unfold maxLen; omega))) (Reads.get (Reads.old hs)) rfl rfl (fun x2 hx2 => ?_))
  refine ExL.pures 1 rfl ?_
  refine ExL.nil ?_
  refine Ex.cond rfl (fun hb3 => ?_) (fun hb3 => ?_)
  · replace hb3 := nb_t hb3
    refine Ex.regSeq (ExL.pures 0 rfl ?_)
    refine ExL.free (fr_build rfl rfl rfl rfl) rfl rfl rfl ?_
    refine ExL.op rfl (op_storeC (i := 0) rfl rfl rfl rfl rfl rfl rfl rfl rfl rfl ?_)
    refine ExL.pures 1 rfl ?_
    refine ExL.nil ?_
    refine Ex.ret ?_
    refine RetQ.mk (zPh, 1) rfl (.cell rfl (.many rfl rfl rfl (SegO.whole (i := 0) rfl)) (.tmp rfl .nil)) (rfl) [] (rfl) rfl (rdPh_v (by assumption))
  · replace hb3 := nb_f hb3
    refine Ex.skip ?_
    have hv := (by assumption : validStack s = true)
    have hS := stk hv
    have h8 := hS.len8
    refine Ex.regSeq (ExL.pures 1 rfl ?_)
    refine ExL.op rfl (op_ret rfl rfl rfl (c_l01Split t 58 58 (by decide) (by omega)) (fun _ _ => trivial) rfl rfl (fun x4 hx4 => ?_))
    refine ExL.pures 1 rfl ?_
    refine ExL.nil ?_
    refine Ex.seq ?_
    refine Ex.regSeq (ExL.pures 4 rfl ?_)
    refine ExL.neq rfl rfl rfl rfl rfl rfl (fun h5 => ?_) (fun h5 => ?_)
    · refine ExL.nil ?_
      refine Ex.cond_t rfl ?_
      refine Ex.regSeq (ExL.pures 0 rfl ?_)
      refine ExL.free (fr_build rfl rfl rfl rfl) rfl rfl rfl ?_
      refine ExL.op rfl (op_storeC (i := 1) rfl rfl rfl rfl rfl rfl rfl rfl rfl rfl ?_)
      refine ExL.pures 1 rfl ?_
      refine ExL.nil ?_
      refine Ex.ret ?_
      refine RetQ.mk (zPh, 5) rfl (.cell rfl (.many rfl rfl rfl (SegO.whole (i := 1) rfl)) (.tmp rfl .nil)) (rfl) [] (rfl) rfl (rdPh_no hv (nph_len hS (by omega)))
    · refine ExL.nil ?_
      refine Ex.cond_f rfl ?_
      refine Ex.skip ?_
      refine Ex.regSeq (ExL.pures 0 rfl ?_)
      refine ExL.free (fr_build rfl rfl rfl rfl) rfl rfl rfl ?_
      refine ExL.op rfl (op_alloc rfl rfl rfl rfl rfl (fun b6 => ?_))
      refine ExL.op rfl (op_storeC (i := 0) rfl rfl rfl rfl rfl rfl rfl rfl rfl rfl ?_)
      refine ExL.nil ?_
      refine Ex.seq ?_
      refine Ex.regSeq (ExL.pures 1 rfl ?_)
      refine ExL.nil ?_
      refine Ex.block ?_
      refine Ex.loopK (X := PhS) (fun q => [(8, .int .i64 q.k)]) (fun q => [.blk b6 (q.l.flatMap encMk) 38]) (fun q => q.k ≤ s.length ∧ q.l.length = 8 ∧ OkL q.l ∧ PhB s t q.l q.k) (fun q => s.length - q.k) (⟨0, zer8⟩ : PhS) [(0, _), (4, _), (6, _), (7, _)] [_, _] 3 [0, 1, 2] ⟨rfl, trivial⟩ ⟨rfl, rfl, rfl, rfl, trivial⟩ (rfl) rfl ⟨Nat.zero_le _, rfl, okL_0, phB_0 s t⟩ (fun q hI => ?_)
      have hI : q.k ≤ s.length ∧ q.l.length = 8 ∧ OkL q.l ∧ PhB s t q.l q.k := hI
      obtain ⟨hqk, h8q, hqo, hqb⟩ := hI
      refine Ex.seq ?_
      refine Ex.regSeq (ExL.pures 3 rfl ?_)
      refine ExL.lss rfl rfl rfl rfl rfl rfl (fun h7 => ?_) (fun h7 => ?_)
      · refine ExL.nil ?_
        refine Ex.cond_t rfl ?_
        refine Ex.skip ?_
        refine Ex.seq ?_
        refine Ex.block ?_
        obtain ⟨j, hj⟩ : ∃ j : Nat, (s.length : Int) - 1 - q.k = (j : Int) := ⟨s.length - 1 - q.k, by omega⟩
        have hjj : s.length - 1 - q.k = j := by omega
        have hsj := hS.bases q.k (by omega)
        have hwl := piece_le 58 t j
        refine Ex.drawSeqM rfl ?_
        refine ExD.take (i := 0) rfl (by kernel_rfl) (pureVal_ok rfl) ((List.Sublist.refl _)) rfl rfl rfl ?_
        refine ExD.take (i := 1) rfl (by kernel_rfl) (pureVal_ok rfl) ((List.Sublist.refl _)) rfl rfl rfl ?_
        refine ExD.take (i := 2) rfl (by kernel_rfl) (pureVal_ok rfl) ((List.Sublist.refl _)) rfl rfl rfl ?_
        refine ExD.take (i := 3) rfl (by kernel_rfl) (by first | exact fr_sub64 rfl rfl rfl (by omega) | exact fr_sub rfl rfl rfl) ((List.Sublist.refl _)) rfl rfl rfl ?_
        refine ExD.take (i := 4) rfl (by kernel_rfl) (pureVal_ok rfl) ((List.Sublist.refl _)) rfl rfl rfl ?_
        refine ExD.take (i := 5) rfl (by kernel_rfl) (fr_sub64J j rfl rfl rfl hj (by omega)) ((List.Sublist.refl _)) rfl rfl rfl ?_
        refine ExD.take (i := 6) rfl (by kernel_rfl) (fr_indexAddrR (sz := 1) 1 rfl rfl rfl rfl rfl rfl (by omega)) ((List.Sublist.refl _)) rfl rfl rfl ?_
        refine ExD.take (i := 7) rfl (by kernel_rfl) (fr_load rfl rfl rfl rfl (by first | exact cellN (Reads.row (i := 1) rfl) eSt_len ([] : List UInt8) 0 rfl (by omega) rfl | exact cellF (Reads.row (i := 1) rfl) eSt_len ([] : List UInt8) 0 rfl (by omega) rfl)) ((List.Sublist.refl _)) rfl rfl rfl ?_
        refine ExD.take (i := 8) rfl (by kernel_rfl) (pureVal_ok rfl) ((List.Sublist.refl _)) rfl rfl rfl ?_
        refine ExD.take (i := 9) rfl (by kernel_rfl) (pureVal_ok rfl) ((List.Sublist.refl _)) rfl rfl rfl ?_
        refine ExD.take (i := 10) rfl (by kernel_rfl) (fr_indexAddrF (Reads.old hs) (eI_len .u8) rfl rfl rfl rfl rfl rfl (by omega)) ((List.Sublist.refl _)) rfl rfl rfl ?_
        refine ExD.take (i := 11) rfl (by kernel_rfl) (fr_load rfl rfl rfl rfl (by first | exact cellN (Reads.old hs) (eI_len .u8) 0 0 rfl (by omega) rfl | exact cellF (Reads.old hs) (eI_len .u8) 0 0 rfl (by omega) rfl)) ((List.Sublist.refl _)) rfl rfl rfl ?_
        refine ExDF.start 16 rfl (Alc.of rfl rfl rfl rfl rfl) ?_
        refine ExDF.step (i := 12) rfl rfl (by kernel_rfl) (by kernel_rfl) rfl rfl rfl (fun _ => rfl) rfl (List.Sublist.refl _) (Alc.of rfl rfl rfl rfl rfl) (fun K' hK => op_ret rfl rfl rfl (c_l05ReadWheel ((splitA 58 [] t).getD j []) (s.getD q.k 0) (by omega) (by omega)) (fun _ _ => trivial) rfl rfl (fun x10 hx10 => hK x10 hx10)) (fun b8 K' hK => op_ret rfl rfl rfl (c_l05ReadWheel ((splitA 58 [] t).getD j []) (s.getD q.k 0) (by omega) (by omega)) (fun _ _ => trivial) rfl rfl (fun x9 hx9 => hK x9 hx9)) (fun x10 hx10 => ?_)
        refine ExDF.take (i := 13) rfl (by kernel_rfl) (by kernel_rfl) rfl (pureVal_ok rfl) (fun _ => pureVal_ok rfl) (List.Sublist.refl _) rfl (fun _ => rfl) rfl rfl rfl ?_
        refine ExDF.take (i := 14) rfl (by kernel_rfl) (by kernel_rfl) rfl (pureVal_ok rfl) (fun _ => pureVal_ok rfl) (List.Sublist.refl _) rfl (fun _ => rfl) rfl rfl rfl ?_
        refine ExDF.take (i := 15) rfl (by kernel_rfl) (by kernel_rfl) rfl (pureVal_ok rfl) (fun _ => pureVal_ok rfl) (List.Sublist.refl _) rfl (fun _ => rfl) rfl rfl rfl ?_
        refine ExDF.fin rfl (by kernel_rfl) rfl (List.Sublist.refl _) (Alc.of rfl rfl rfl rfl rfl) (fun b11 => ?_)
        refine ExD.op (i := 17) rfl (by kernel_rfl) rfl (op_storeC (i := 0) rfl rfl rfl rfl rfl rfl rfl rfl rfl rfl ⟨(List.Sublist.cons _ (List.Sublist.refl _)), ?_⟩)
        refine ExD.take (i := 18) rfl (by kernel_rfl) (pureVal_ok rfl) ((List.Sublist.cons _ (List.Sublist.refl _))) rfl rfl rfl ?_
        refine ExD.done (by kernel_rfl) ?_
        refine Ex.seq ?_
        refine Ex.regSeq (ExL.pures 2 rfl ?_)
        refine ExL.nil ?_
        refine Ex.cond rfl (fun hb12 => ?_) (fun hb12 => ?_)
        · replace hb12 := nb_t hb12
          refine Ex.regSeq (ExL.pures 0 rfl ?_)
          refine ExL.free (fr_build rfl rfl rfl rfl) rfl rfl rfl ?_
          refine ExL.op rfl (op_storeC (i := 3) rfl rfl rfl rfl rfl rfl rfl rfl rfl rfl ?_)
          refine ExL.pures 1 rfl ?_
          refine ExL.nil ?_
          refine Ex.ret ?_
          refine RetQ.mk (zPh, 5) rfl (.cell rfl (.many rfl rfl rfl (SegO.whole (i := 3) rfl)) (.tmp rfl .nil)) (rfl) [] (rfl) rfl (rdPh_no hv (nph_w (j := q.k) (by omega) (by rw [hjj]; exact hx10.2.2 (by assumption))))
        · replace hb12 := nb_f hb12
          refine Ex.skip ?_
          refine Ex.region (ExL.pures 1 rfl ?_)
          refine ExL.free (fr_loadN rfl rfl rfl rfl rfl (SegO.whole (i := 0) rfl)) rfl rfl rfl ?_
          refine ExL.free (fr_indexAddr_b (sz := 2) rfl rfl rfl rfl rfl (by omega)) rfl rfl rfl ?_
          refine ExL.op rfl (op_store (i := 1) rfl rfl rfl rfl rfl rfl rfl rfl (room encMk_len (k := q.k) (by omega) (by simp) rfl) rfl ?_)
          refine ExL.nil ?_
          refine Ex.region (ExL.pures 1 rfl ?_)
          refine ExL.free (by first | exact fr_add64 rfl rfl rfl (by omega) | exact fr_add rfl rfl rfl) rfl rfl rfl ?_
          refine ExL.pures 1 rfl ?_
          refine ExL.nil ?_
          refine Hand.mk (⟨q.k + 1, q.l.set q.k x10.1⟩ : PhS) 4 [1, 2, 3] ⟨rfl, trivial⟩ ⟨rfl, rfl, rfl, rfl, trivial⟩ (pkB (set_put encMk_len q.l q.k _ (by omega) (by simp) rfl)) rfl (⟨by dsimp only; omega, by rw [List.length_set]; exact h8q, okL_s h8q (by omega) hqo hx10.1, phB_s h8q (by omega) hqb (by rw [hjj]; exact hx10.2.1 (by assumption))⟩) (by dsimp only; omega)
      · refine ExL.nil ?_
        refine Ex.cond_f rfl ?_
        refine Ex.exit ?_
        have hks : q.k = s.length := by omega
        rw [← encPh_ph h8q]
        refine Ex.regSeq (ExL.pures 0 rfl ?_)
        refine ExL.free (fr_loadN rfl rfl rfl rfl rfl (SegO.whole (i := 0) rfl)) rfl rfl rfl ?_
        refine ExL.op rfl (op_storeC (i := 2) rfl rfl rfl rfl rfl rfl rfl rfl rfl rfl ?_)
        refine ExL.pures 1 rfl ?_
        refine ExL.nil ?_
        refine Ex.ret ?_
        refine RetQ.mk (phot q.l, 0) rfl (.cell rfl (.many rfl rfl rfl (SegO.whole (i := 2) rfl)) (.tmp rfl .nil)) (rfl) [] (rfl) rfl (rdPh_s hv h8q hqo (by omega) (by rw [← hks]; exact hqb))
theorem e_19 : Enters Tryd.prog 19 := Enters.of Tryd.func19 rfl
set_option maxHeartbeats 1000000 in
theorem c_iReadPhoto (s : List Int) (hu : Nums 255 s) (As : Option Addr) (cs : Nat) (hls : s.length ≤ maxLen) (t : List UInt8) (hl : t.length ≤ 1048576) : Ret Tryd.prog 19 [.slice As s.length cs, sv t] (fun w => Rd w As (s.flatMap (eI .u8)) ∧ RdO 0 1 2 w ∧ TabO Tryd.prog w) (fun x : VPh × Int => .tuple #[.agg (encPh x.1).toArray, .int .i64 x.2]) (fun x => []) (fun x => RdPh s t x) := by
  refine Ret.of e_19 Tryd.func19 rfl Tryd.ntmps19 rfl rfl (fun w hpre => ?_)
  have hs := hpre.1.base
  have hrd := hpre.2.1
  have htab := hpre.2.2
  have hpn := splitA_len 58 t []
  have hm0 : maxLen = 9223372036854775807 := rfl
  refine Ex.regSeq (ExL.pures 0 rfl ?_)
  refine ExL.op rfl (op_alloc rfl rfl rfl rfl rfl (fun b1 => ?_))
  refine ExL.pures 1 rfl ?_
  refine ExL.nil ?_
  refine Ex.seq ?_
  refine Ex.regSeq (ExL.pures 1 rfl ?_)
  refine ExL.op rfl (op_ret rfl rfl rfl (c_ValidStack _ (by assumption) _ _ (by first | assumption | omega | (unfold maxLen; omega))) (Reads.get (Reads.old hs)) rfl rfl (fun x2 hx2 => ?_))
  refine ExL.pures 1 rfl ?_
  refine ExL.nil ?_
  refine Ex.cond rfl (fun hb3 => ?_) (fun hb3 => ?_)
  · replace hb3 := nb_t hb3
    refine Ex.regSeq (ExL.pures 0 rfl ?_)
    refine ExL.free (fr_build rfl rfl rfl rfl) rfl rfl rfl ?_
    refine ExL.op rfl (op_storeC (i := 0) rfl rfl rfl rfl rfl rfl rfl rfl rfl rfl ?_)
    refine ExL.pures 1 rfl ?_
    refine ExL.nil ?_
    refine Ex.ret ?_
    refine RetQ.mk (zPh, 1) rfl (.cell rfl (.many rfl rfl rfl (SegO.whole (i := 0) rfl)) (.tmp rfl .nil)) (rfl) [] (rfl) rfl (rdPh_v (by assumption))
  · replace hb3 := nb_f hb3
    refine Ex.skip ?_
    have hv := (by assumption : validStack s = true)
    have hS := stk hv
    have h8 := hS.len8
    refine Ex.regSeq (ExL.pures 0 rfl ?_)
    refine ExL.free (fr_build rfl rfl rfl rfl) rfl rfl rfl ?_
    refine ExL.pures 1 rfl ?_
    refine ExL.op rfl (op_ret rfl rfl rfl (c_Split t 58 (by omega)) (fun w hw => RdO.keep hrd hw) rfl rfl (fun x4 hx4 => ?_))
    refine ExL.op rfl (op_alloc rfl rfl rfl rfl rfl (fun b5 => ?_))
    refine ExL.op rfl (op_storeC (i := 0) rfl rfl rfl rfl rfl rfl rfl rfl rfl rfl ?_)
    refine ExL.pures 1 rfl ?_
    refine ExL.nil ?_
    refine Ex.seq ?_
    refine Ex.regSeq (ExL.pures 4 rfl ?_)
    refine ExL.neq rfl rfl rfl rfl rfl rfl (fun h6 => ?_) (fun h6 => ?_)
    · refine ExL.nil ?_
      refine Ex.cond_t rfl ?_
      refine Ex.regSeq (ExL.pures 0 rfl ?_)
      refine ExL.free (fr_build rfl rfl rfl rfl) rfl rfl rfl ?_
      refine ExL.op rfl (op_storeC (i := 2) rfl rfl rfl rfl rfl rfl rfl rfl rfl rfl ?_)
      refine ExL.pures 1 rfl ?_
      refine ExL.nil ?_
      refine Ex.ret ?_
      refine RetQ.mk (zPh, 5) rfl (.cell rfl (.many rfl rfl rfl (SegO.whole (i := 2) rfl)) (.tmp rfl .nil)) (rfl) [] (rfl) rfl (rdPh_no hv (nph_len hS (by omega)))
    · refine ExL.nil ?_
      refine Ex.cond_f rfl ?_
      refine Ex.skip ?_
      refine Ex.seq ?_
      refine Ex.regSeq (ExL.pures 3 rfl ?_)
      refine ExL.nil ?_
      refine Ex.block ?_
      refine Ex.loopK (X := PhS) (fun q => [(28, .int .i64 q.k)]) (fun q => [.blk b5 (q.l.flatMap encMk) 38]) (fun q => q.k ≤ s.length ∧ q.l.length = 8 ∧ OkL q.l ∧ PhU s t q.l q.k) (fun q => s.length - q.k) (⟨0, zer8⟩ : PhS) [(0, _), (1, _), (4, _), (6, _), (26, _), (27, _)] [_, _] 3 [0, 1, 2] ⟨rfl, trivial⟩ ⟨rfl, rfl, rfl, rfl, rfl, rfl, trivial⟩ (rfl) rfl ⟨Nat.zero_le _, rfl, okL_0, phU_0 s t⟩ (fun q hI => ?_)
      have hI : q.k ≤ s.length ∧ q.l.length = 8 ∧ OkL q.l ∧ PhU s t q.l q.k := hI
      obtain ⟨hqk, h8q, hqo, hqb⟩ := hI
      refine Ex.regSeq (ExL.pures 0 rfl ?_)
      refine ExL.lss rfl rfl rfl rfl rfl rfl (fun h7 => ?_) (fun h7 => ?_)
      · refine ExL.nil ?_
        refine Ex.seq ?_
        refine Ex.cond_t rfl ?_
        refine Ex.skip ?_
        refine Ex.seq ?_
        refine Ex.block ?_
        have hwl := piece_le 58 t q.k
        refine Ex.regSeq (ExL.pures 1 rfl ?_)
        refine ExL.free (fr_indexAddr (sz := 1) rfl rfl rfl rfl rfl rfl (by omega)) rfl rfl rfl ?_
        refine ExL.free (fr_load rfl rfl rfl rfl (by first | exact cellN (Reads.row (i := 1) rfl) eSt_len ([] : List UInt8) 0 rfl (by omega) rfl | exact cellF (Reads.row (i := 1) rfl) eSt_len ([] : List UInt8) 0 rfl (by omega) rfl)) rfl rfl rfl ?_
        refine ExL.pures 2 rfl ?_
        refine ExL.nil ?_
        obtain ⟨j, hj⟩ : ∃ j : Nat, (s.length : Int) - 1 - q.k = (j : Int) := ⟨s.length - 1 - q.k, by omega⟩
        have hjj : s.length - 1 - q.k = j := by omega
        have hsj := hS.bases j (by omega)
        refine Ex.regSeq (ExL.pures 2 rfl ?_)
        refine ExL.free (by first | exact fr_sub64 rfl rfl rfl (by omega) | exact fr_sub rfl rfl rfl) rfl rfl rfl ?_
        refine ExL.pures 1 rfl ?_
        refine ExL.free (fr_sub64J j rfl rfl rfl hj (by omega)) rfl rfl rfl ?_
        refine ExL.pures 1 rfl ?_
        refine ExL.nil ?_
        refine Ex.regSeq (ExL.pures 3 rfl ?_)
        refine ExL.free (fr_indexAddrF (Reads.old hs) (eI_len .u8) rfl rfl rfl rfl rfl rfl (by omega)) rfl rfl rfl ?_
        refine ExL.free (fr_load rfl rfl rfl rfl (by first | exact cellN (Reads.old hs) (eI_len .u8) 0 0 rfl (by omega) rfl | exact cellF (Reads.old hs) (eI_len .u8) 0 0 rfl (by omega) rfl)) rfl rfl rfl ?_
        refine ExL.free (by first | exact fr_conv64 rfl rfl rfl rfl (by omega) | exact fr_conv rfl rfl rfl rfl) rfl rfl rfl ?_
        refine ExL.op rfl (op_ret rfl rfl rfl (c_readMarks ((splitA 58 [] t).getD q.k []) (s.getD j 0) (by omega) (by omega)) (fun w hw => RdO.keep hrd hw) rfl rfl (fun x8 hx8 => ?_))
        refine ExL.pures 3 rfl ?_
        refine ExL.op rfl (op_alloc rfl rfl rfl rfl rfl (fun b9 => ?_))
        refine ExL.op rfl (op_storeC (i := 0) rfl rfl rfl rfl rfl rfl rfl rfl rfl rfl ?_)
        refine ExL.pures 1 rfl ?_
        refine ExL.nil ?_
        refine Ex.seq ?_
        refine Ex.regSeq (ExL.pures 2 rfl ?_)
        refine ExL.nil ?_
        refine Ex.cond rfl (fun hb10 => ?_) (fun hb10 => ?_)
        · replace hb10 := nb_t hb10
          refine Ex.regSeq (ExL.pures 0 rfl ?_)
          refine ExL.free (fr_build rfl rfl rfl rfl) rfl rfl rfl ?_
          refine ExL.op rfl (op_storeC (i := 3) rfl rfl rfl rfl rfl rfl rfl rfl rfl rfl ?_)
          refine ExL.pures 1 rfl ?_
          refine ExL.nil ?_
          refine Ex.ret ?_
          refine RetQ.mk (zPh, 5) rfl (.cell rfl (.many rfl rfl rfl (SegO.whole (i := 3) rfl)) (.tmp rfl .nil)) (rfl) [] (rfl) rfl (rdPh_no hv (nph_w (j := j) (by omega) (by rw [show s.length - 1 - j = q.k by omega]; exact hx8.2.2 (by assumption))))
        · replace hb10 := nb_f hb10
          refine Ex.skip ?_
          refine Ex.region (ExL.pures 1 rfl ?_)
          refine ExL.free (fr_loadN rfl rfl rfl rfl rfl (SegO.whole (i := 0) rfl)) rfl rfl rfl ?_
          refine ExL.free (fr_indexAddr_b (sz := 2) rfl rfl rfl rfl rfl (by omega)) rfl rfl rfl ?_
          refine ExL.op rfl (op_store (i := 1) rfl rfl rfl rfl rfl rfl rfl rfl (room encMk_len (k := j) (by omega) (by simp) rfl) rfl ?_)
          refine ExL.nil ?_
          refine Ex.region (ExL.pures 0 rfl ?_)
          refine ExL.free (by first | exact fr_add64 rfl rfl rfl (by omega) | exact fr_add rfl rfl rfl) rfl rfl rfl ?_
          refine ExL.pures 1 rfl ?_
          refine ExL.nil ?_
          refine Hand.mk (⟨q.k + 1, q.l.set j x8.1⟩ : PhS) 4 [1, 2, 3] ⟨rfl, trivial⟩ ⟨rfl, rfl, rfl, rfl, rfl, rfl, trivial⟩ (pkB (set_put encMk_len q.l j _ (by omega) (by simp) rfl)) rfl (⟨by dsimp only; omega, by rw [List.length_set]; exact h8q, okL_s h8q (by omega) hqo hx8.1, phU_s h8q (by omega) (by omega) hjj.symm hqb hx8 (by assumption)⟩) (by dsimp only; omega)
      · refine ExL.nil ?_
        refine Ex.seq ?_
        refine Ex.cond_f rfl ?_
        refine Ex.exit ?_
        have hks : q.k = s.length := by omega
        rw [← encPh_ph h8q]
        refine Ex.seq ?_
        refine Ex.regSeq (ExL.pures 1 rfl ?_)
        refine ExL.free (fr_loadN rfl rfl rfl rfl rfl (SegO.whole (i := 0) rfl)) rfl rfl rfl ?_
        refine ExL.op rfl (op_ret rfl rfl rfl (c_iPhotoText s (by assumption) _ _ (by omega) (phot q.l) (okPhot h8q hqo)) (fun w hw => ⟨Reads.get (Reads.old hs) w hw, TabO.keep htab hw⟩) rfl rfl (fun x11 hx11 => ?_))
        refine ExL.pures 1 rfl ?_
        refine ExL.free (fr_neqS (l := (phTx s (phot q.l))) (r := t) rfl rfl rfl) rfl rfl rfl ?_
        refine ExL.nil ?_
        refine Ex.cond rfl (fun hb12 => ?_) (fun hb12 => ?_)
        · replace hb12 := nd_t hb12
          refine Ex.regSeq (ExL.pures 0 rfl ?_)
          refine ExL.free (fr_build rfl rfl rfl rfl) rfl rfl rfl ?_
          refine ExL.op rfl (op_storeC (i := 2) rfl rfl rfl rfl rfl rfl rfl rfl rfl rfl ?_)
          refine ExL.pures 1 rfl ?_
          refine ExL.nil ?_
          refine Ex.ret ?_
          refine RetQ.mk (zPh, 5) rfl (.cell rfl (.many rfl rfl rfl (SegO.whole (i := 2) rfl)) (.tmp rfl .nil)) (rfl) [] (rfl) rfl (rdPh_n hv h8q (by rw [← hks]; exact hqb) (by assumption))
        · replace hb12 := nd_f hb12
          refine Ex.skip ?_
          refine Ex.regSeq (ExL.pures 0 rfl ?_)
          refine ExL.free (fr_loadN rfl rfl rfl rfl rfl (SegO.whole (i := 0) rfl)) rfl rfl rfl ?_
          refine ExL.op rfl (op_storeC (i := 2) rfl rfl rfl rfl rfl rfl rfl rfl rfl rfl ?_)
          refine ExL.pures 1 rfl ?_
          refine ExL.nil ?_
          refine Ex.ret ?_
          refine RetQ.mk (phot q.l, 0) rfl (.cell rfl (.many rfl rfl rfl (SegO.whole (i := 2) rfl)) (.tmp rfl .nil)) (rfl) [] (rfl) rfl (rdPh_i hv h8q hqo (by omega) (by rw [← hks]; exact hqb) (by assumption))
end Go.Proofs.YtejedjgajcjejaaDoor

/- What these functions of the program hand back, each proved by walking its operations. -/
set_option linter.unusedVariables false
set_option linter.unusedSimpArgs false
set_option maxRecDepth 4000
namespace Go.Proofs.YtejedjgajcjejaaDoor
open Go Go.Sx Go.RowKit Go.W Go.Proofs
attribute [local irreducible] Ex ExL ExD Op1 Free RetQ MutQ Reads CellO SegO LoadsAs
theorem e_43 : Enters Tryd.prog 43 := Enters.of Tryd.func43 rfl
theorem c_eqMarks (a b : VMk) : Ret Tryd.prog 43 [.agg (encMk a).toArray, .agg (encMk b).toArray] (fun w => True) (fun x : Unit => .bool (decide (a.l = b.l))) (fun x => []) (fun x => True) := by
  refine Ret.of e_43 Tryd.func43 rfl Tryd.ntmps43 rfl rfl (fun w hpre => ?_)
  refine Ex.regSeq (ExL.pures 0 rfl ?_)
  refine ExL.op rfl (op_box rfl rfl rfl rfl rfl (fun b1 => ?_))
  refine ExL.op rfl (op_box rfl rfl rfl rfl rfl (fun b2 => ?_))
  refine ExL.pures 1 rfl ?_
  refine ExL.nil ?_
  refine Ex.seq ?_
  refine Ex.regSeq (ExL.pures 1 rfl ?_)
  refine ExL.nil ?_
  refine Ex.block ?_
  refine Ex.loopK (X := Nat) (fun k => [(5, .int .i64 k)]) (fun k => []) (fun k => k ≤ 2 ∧ ∀ i, i < k → a.l.getD i 0 = b.l.getD i 0) (fun k => 2 - k) 0 [(2, _), (3, _)] [_, _] 2 [0, 1] ⟨rfl, trivial⟩ ⟨rfl, rfl, trivial⟩ (rfl) rfl ⟨Nat.zero_le _, fun i hi => by omega⟩ (fun k hI => ?_)
  have hI : k ≤ 2 ∧ ∀ i, i < k → a.l.getD i 0 = b.l.getD i 0 := hI
  obtain ⟨hk, hall⟩ := hI
  refine Ex.seq ?_
  refine Ex.regSeq (ExL.pures 1 rfl ?_)
  refine ExL.lss rfl rfl rfl rfl rfl rfl (fun h3 => ?_) (fun h3 => ?_)
  · refine ExL.nil ?_
    refine Ex.cond_t rfl ?_
    refine Ex.skip ?_
    refine Ex.seq ?_
    refine Ex.block ?_
    refine Ex.drawSeqM rfl ?_
    refine ExD.take (i := 0) rfl (by kernel_rfl) (pureVal_ok rfl) ((List.Sublist.refl _)) rfl rfl rfl ?_
    refine ExD.take (i := 1) rfl (by kernel_rfl) (fr_indexAddr_b (sz := 1) rfl rfl rfl rfl rfl (by omega)) ((List.Sublist.refl _)) rfl rfl rfl ?_
    refine ExD.take (i := 2) rfl (by kernel_rfl) (fr_load rfl rfl rfl rfl (CellO.blk (i := 1) rfl (blkG (eI_len .u64) 0 rfl (by rw [mk_len]; omega) rfl))) ((List.Sublist.refl _)) rfl rfl rfl ?_
    refine ExD.take (i := 3) rfl (by kernel_rfl) (pureVal_ok rfl) ((List.Sublist.refl _)) rfl rfl rfl ?_
    refine ExD.take (i := 4) rfl (by kernel_rfl) (fr_indexAddr_b (sz := 1) rfl rfl rfl rfl rfl (by omega)) ((List.Sublist.refl _)) rfl rfl rfl ?_
    refine ExD.take (i := 5) rfl (by kernel_rfl) (fr_load rfl rfl rfl rfl (CellO.blk (i := 0) rfl (blkG (eI_len .u64) 0 rfl (by rw [mk_len]; omega) rfl))) ((List.Sublist.refl _)) rfl rfl rfl ?_
    refine ExD.cmp_neq (i := 6) rfl (by kernel_rfl) rfl rfl rfl ((List.Sublist.refl _)) rfl rfl rfl (fun h4 => ?_) (fun h4 => ?_)
    · refine ExD.done (by kernel_rfl) ?_
      refine Ex.cond_t rfl ?_
      refine Ex.regSeq (ExL.pures 1 rfl ?_)
      refine ExL.nil ?_
      refine Ex.ret ?_
      refine RetQ.mk () rfl (.tmp rfl .nil) (tB (by first | exact eq_no k (by assumption) | exact eq_yes (k := k) rfl (by rw [mk_len]; omega) hall)) [] (rfl) rfl (trivial)
    · refine ExD.done (by kernel_rfl) ?_
      refine Ex.cond_f rfl ?_
      refine Ex.skip ?_
      refine Ex.region (ExL.pures 1 rfl ?_)
      refine ExL.free (by first | exact fr_add64 rfl rfl rfl (by omega) | exact fr_add rfl rfl rfl) rfl rfl rfl ?_
      refine ExL.pures 1 rfl ?_
      refine ExL.nil ?_
      refine Hand.mk (k + 1) 2 [0, 1] ⟨rfl, trivial⟩ ⟨rfl, rfl, trivial⟩ (rfl) rfl (⟨by omega, all_snoc hall (by first | assumption | omega)⟩) (by omega)
  · refine ExL.nil ?_
    refine Ex.cond_f rfl ?_
    refine Ex.exit ?_
    refine Ex.regSeq (ExL.pures 1 rfl ?_)
    refine ExL.nil ?_
    refine Ex.ret ?_
    refine RetQ.mk () rfl (.tmp rfl .nil) (tB (by first | exact eq_no k (by assumption) | exact eq_yes (k := k) rfl (by rw [mk_len]; omega) hall)) [] (rfl) rfl (trivial)
theorem e_20 : Enters Tryd.prog 20 := Enters.of Tryd.func20 rfl
theorem c_eqPhoto (a b : VPh) : Ret Tryd.prog 20 [.agg (encPh a).toArray, .agg (encPh b).toArray] (fun w => True) (fun x : Unit => .bool (samePhE a b)) (fun x => []) (fun x => True) := by
  refine Ret.of e_20 Tryd.func20 rfl Tryd.ntmps20 rfl rfl (fun w hpre => ?_)
  refine Ex.regSeq (ExL.pures 0 rfl ?_)
  refine ExL.op rfl (op_box rfl rfl rfl rfl rfl (fun b1 => ?_))
  refine ExL.op rfl (op_box rfl rfl rfl rfl rfl (fun b2 => ?_))
  refine ExL.pures 1 rfl ?_
  refine ExL.nil ?_
  refine Ex.seq ?_
  refine Ex.regSeq (ExL.pures 1 rfl ?_)
  refine ExL.nil ?_
  refine Ex.block ?_
  refine Ex.loopK (X := Nat) (fun k => [(5, .int .i64 k)]) (fun k => []) (fun k => k ≤ 8 ∧ ∀ i, i < k → (a.l.getD i zMk).l = (b.l.getD i zMk).l) (fun k => 8 - k) 0 [(2, _), (3, _)] [_, _] 2 [0, 1] ⟨rfl, trivial⟩ ⟨rfl, rfl, trivial⟩ (rfl) rfl ⟨Nat.zero_le _, fun i hi => by omega⟩ (fun k hI => ?_)
  have hI : k ≤ 8 ∧ ∀ i, i < k → (a.l.getD i zMk).l = (b.l.getD i zMk).l := hI
  obtain ⟨hk, hall⟩ := hI
  refine Ex.seq ?_
  refine Ex.regSeq (ExL.pures 1 rfl ?_)
  refine ExL.lss rfl rfl rfl rfl rfl rfl (fun h3 => ?_) (fun h3 => ?_)
  · refine ExL.nil ?_
    refine Ex.cond_t rfl ?_
    refine Ex.skip ?_
    refine Ex.seq ?_
    refine Ex.block ?_
    refine Ex.drawSeqM rfl ?_
    refine ExD.take (i := 0) rfl (by kernel_rfl) (pureVal_ok rfl) ((List.Sublist.refl _)) rfl rfl rfl ?_
    refine ExD.take (i := 1) rfl (by kernel_rfl) (fr_indexAddr_b (sz := 2) rfl rfl rfl rfl rfl (by omega)) ((List.Sublist.refl _)) rfl rfl rfl ?_
    refine ExD.take (i := 2) rfl (by kernel_rfl) (fr_loadN rfl rfl rfl rfl rfl (segB (i := 1) rfl encMk_len zMk (by rw [ph_len]; omega))) ((List.Sublist.refl _)) rfl rfl rfl ?_
    refine ExD.take (i := 3) rfl (by kernel_rfl) (pureVal_ok rfl) ((List.Sublist.refl _)) rfl rfl rfl ?_
    refine ExD.take (i := 4) rfl (by kernel_rfl) (fr_indexAddr_b (sz := 2) rfl rfl rfl rfl rfl (by omega)) ((List.Sublist.refl _)) rfl rfl rfl ?_
    refine ExD.take (i := 5) rfl (by kernel_rfl) (fr_loadN rfl rfl rfl rfl rfl (segB (i := 0) rfl encMk_len zMk (by rw [ph_len]; omega))) ((List.Sublist.refl _)) rfl rfl rfl ?_
    refine ExD.op (i := 6) rfl (by kernel_rfl) rfl (op_ret rfl rfl rfl (c_eqMarks (a.l.getD k zMk) (b.l.getD k zMk)) (fun _ _ => trivial) rfl rfl (fun x4 hx4 => ⟨(List.Sublist.refl _), ?_⟩))
    refine ExD.take (i := 7) rfl (by kernel_rfl) (pureVal_ok rfl) ((List.Sublist.refl _)) rfl rfl rfl ?_
    refine ExD.done (by kernel_rfl) ?_
    refine Ex.cond rfl (fun hb5 => ?_) (fun hb5 => ?_)
    · replace hb5 := nd_t hb5
      refine Ex.regSeq (ExL.pures 1 rfl ?_)
      refine ExL.nil ?_
      refine Ex.ret ?_
      refine RetQ.mk () rfl (.tmp rfl .nil) (tB (by first | exact spE_no k (by omega) (by assumption) | exact spE_yes (by omega) hall)) [] (rfl) rfl (trivial)
    · replace hb5 := nd_f hb5
      refine Ex.skip ?_
      refine Ex.region (ExL.pures 1 rfl ?_)
      refine ExL.free (by first | exact fr_add64 rfl rfl rfl (by omega) | exact fr_add rfl rfl rfl) rfl rfl rfl ?_
      refine ExL.pures 1 rfl ?_
      refine ExL.nil ?_
      refine Hand.mk (k + 1) 2 [0, 1] ⟨rfl, trivial⟩ ⟨rfl, rfl, trivial⟩ (rfl) rfl (⟨by omega, all_snoc hall (by assumption)⟩) (by omega)
  · refine ExL.nil ?_
    refine Ex.cond_f rfl ?_
    refine Ex.exit ?_
    refine Ex.regSeq (ExL.pures 1 rfl ?_)
    refine ExL.nil ?_
    refine Ex.ret ?_
    refine RetQ.mk () rfl (.tmp rfl .nil) (tB (by first | exact spE_no k (by omega) (by assumption) | exact spE_yes (by omega) hall)) [] (rfl) rfl (trivial)
end Go.Proofs.YtejedjgajcjejaaDoor

/- What these functions of the program hand back, each proved by walking its operations. -/
set_option linter.unusedVariables false
set_option linter.unusedSimpArgs false
set_option maxRecDepth 4000
namespace Go.Proofs.YtejedjgajcjejaaDoor
open Go Go.Sx Go.RowKit Go.W Go.Proofs
attribute [local irreducible] Ex ExL ExD Op1 Free RetQ MutQ Reads CellO SegO LoadsAs
theorem e_5 : Enters Tryd.prog 5 := Enters.of Tryd.func5 rfl
theorem w_FnExactReadPhoto (s : List Int) (hu : Nums 255 s) (As : Option Addr) (cs : Nat) (hls : s.length ≤ maxLen) (t : List UInt8) (hlt : t.length ≤ maxLen) : Ret Tryd.prog 5 [.slice As s.length cs, sv t] (fun w => Rd w As (s.flatMap (eI .u8)) ∧ RdO 0 1 2 w ∧ TabO Tryd.prog w) (fun x : Unit => .bool true) (fun x => []) (fun x => True) := by
  refine Ret.of e_5 Tryd.func5 rfl Tryd.ntmps5 rfl rfl (fun w hpre => ?_)
  have hs := hpre.1.base
  have hrd := hpre.2.1
  have htab := hpre.2.2
  have hm0 : maxLen = 9223372036854775807 := rfl
  refine Ex.regSeq (ExL.pures 1 rfl ?_)
  refine ExL.nil ?_
  refine Ex.seq ?_
  refine Ex.regSeq (ExL.pures 2 rfl ?_)
  refine ExL.gtr rfl rfl rfl rfl rfl rfl (fun h1 => ?_) (fun h1 => ?_)
  · refine ExL.nil ?_
    refine Ex.cond_t rfl ?_
    refine Ex.regSeq (ExL.pures 1 rfl ?_)
    refine ExL.nil ?_
    refine Ex.ret ?_
    refine RetQ.mk () rfl (.tmp rfl .nil) (tB (by first | rfl | (exfalso; omega) | (exfalso; simp_all [samePhE_refl]; done))) [] (rfl) rfl (trivial)
  · refine ExL.nil ?_
    refine Ex.cond_f rfl ?_
    refine Ex.skip ?_
    refine Ex.seq ?_
    refine Ex.regSeq (ExL.pures 1 rfl ?_)
    refine ExL.free (fr_lenS (l := t) rfl rfl rfl) rfl rfl rfl ?_
    refine ExL.gtr rfl rfl rfl rfl rfl rfl (fun h2 => ?_) (fun h2 => ?_)
    · refine ExL.nil ?_
      refine Ex.cond_t rfl ?_
      refine Ex.regSeq (ExL.pures 1 rfl ?_)
      refine ExL.nil ?_
      refine Ex.ret ?_
      refine RetQ.mk () rfl (.tmp rfl .nil) (tB (by first | rfl | (exfalso; omega) | (exfalso; simp_all [samePhE_refl]; done))) [] (rfl) rfl (trivial)
    · refine ExL.nil ?_
      refine Ex.cond_f rfl ?_
      refine Ex.skip ?_
      refine Ex.regSeq (ExL.pures 1 rfl ?_)
      refine ExL.op rfl (op_ret rfl rfl rfl (c_toStack s _ _ (by omega)) (Reads.get (Reads.old hs)) rfl rfl (fun x3 hx3 => ?_))
      refine ExL.pures 1 rfl ?_
      refine ExL.op rfl (op_ret rfl rfl rfl (c_sReadPhoto s (by assumption) _ _ (by omega) t (by omega)) (Reads.get (Reads.row (i := 0) rfl)) rfl rfl (fun x4 hx4 => ?_))
      refine ExL.pures 3 rfl ?_
      refine ExL.op rfl (op_alloc rfl rfl rfl rfl rfl (fun b5 => ?_))
      refine ExL.op rfl (op_storeC (i := 0) rfl rfl rfl rfl rfl rfl rfl rfl rfl rfl ?_)
      refine ExL.pures 1 rfl ?_
      refine ExL.nil ?_
      refine Ex.regSeq (ExL.pures 1 rfl ?_)
      refine ExL.op rfl (op_ret rfl rfl rfl (c_toStack s _ _ (by omega)) (Reads.get (Reads.old hs)) rfl rfl (fun x6 hx6 => ?_))
      refine ExL.pures 1 rfl ?_
      refine ExL.nil ?_
      refine Ex.regSeq (ExL.pures 2 rfl ?_)
      refine ExL.op rfl (op_ret rfl rfl rfl (c_iReadPhoto s (by assumption) _ _ (by omega) t (by omega)) (fun w hw => ⟨Reads.get (Reads.row (i := 0) rfl) w hw, RdO.keep hrd hw, TabO.keep htab hw⟩) rfl rfl (fun x7 hx7 => ?_))
      have hex7 := rdPh_one hx7 hx4
      refine ExL.pures 3 rfl ?_
      refine ExL.op rfl (op_alloc rfl rfl rfl rfl rfl (fun b8 => ?_))
      refine ExL.op rfl (op_storeC (i := 0) rfl rfl rfl rfl rfl rfl rfl rfl rfl rfl ?_)
      refine ExL.pures 1 rfl ?_
      refine ExL.nil ?_
      refine Ex.seq ?_
      refine Ex.regSeq (ExL.pures 0 rfl ?_)
      refine ExL.free (fr_loadN rfl rfl rfl rfl rfl (SegO.whole (i := 0) rfl)) rfl rfl rfl ?_
      refine ExL.free (fr_loadN rfl rfl rfl rfl rfl (SegO.whole (i := 2) rfl)) rfl rfl rfl ?_
      refine ExL.op rfl (op_ret rfl rfl rfl (c_eqPhoto x7.1 x4.1) (fun _ _ => trivial) rfl rfl (fun x9 hx9 => ?_))
      refine ExL.pures 2 rfl ?_
      refine ExL.bool (d := 35) rfl (fun hb10 => ?_) (fun hb10 => ?_)
      · replace hb10 := nb_t hb10
        refine ExL.pures 4 rfl ?_
        refine ExL.nil ?_
        refine Ex.cond_t rfl ?_
        refine Ex.regSeq (ExL.pures 1 rfl ?_)
        refine ExL.nil ?_
        refine Ex.ret ?_
        refine RetQ.mk () rfl (.tmp rfl .nil) (tB (by first | rfl | (exfalso; omega) | (exfalso; simp_all [samePhE_refl]; done))) [] (rfl) rfl (trivial)
      · replace hb10 := nb_f hb10
        refine ExL.pures 2 rfl ?_
        refine ExL.neq rfl rfl rfl rfl rfl rfl (fun h11 => ?_) (fun h11 => ?_)
        · refine ExL.pures 1 rfl ?_
          refine ExL.nil ?_
          refine Ex.cond_t rfl ?_
          refine Ex.regSeq (ExL.pures 1 rfl ?_)
          refine ExL.nil ?_
          refine Ex.ret ?_
          refine RetQ.mk () rfl (.tmp rfl .nil) (tB (by first | rfl | (exfalso; omega) | (exfalso; simp_all [samePhE_refl]; done))) [] (rfl) rfl (trivial)
        · refine ExL.pures 1 rfl ?_
          refine ExL.nil ?_
          refine Ex.cond_f rfl ?_
          refine Ex.skip ?_
          refine Ex.seq ?_
          refine Ex.regSeq (ExL.pures 2 rfl ?_)
          refine ExL.op rfl (op_ret rfl rfl rfl (c_toStack s _ _ (by omega)) (Reads.get (Reads.old hs)) rfl rfl (fun x12 hx12 => ?_))
          refine ExL.op rfl (op_ret rfl rfl rfl (c_eqStack s _ _ (by omega) s _ _ (by omega)) (fun w hw => ⟨Reads.get (Reads.row (i := 2) rfl) w hw, Reads.get (Reads.row (i := 0) rfl) w hw⟩) rfl rfl (fun x13 hx13 => ?_))
          refine ExL.pures 1 rfl ?_
          refine ExL.nil ?_
          refine Ex.cond rfl (fun hb14 => ?_) (fun hb14 => ?_)
          · replace hb14 := nd_t hb14
            refine Ex.regSeq (ExL.pures 1 rfl ?_)
            refine ExL.nil ?_
            refine Ex.ret ?_
            refine RetQ.mk () rfl (.tmp rfl .nil) (tB (by first | rfl | (exfalso; omega) | (exfalso; simp_all [samePhE_refl]; done))) [] (rfl) rfl (trivial)
          · replace hb14 := nd_f hb14
            refine Ex.skip ?_
            refine Ex.regSeq (ExL.pures 1 rfl ?_)
            refine ExL.nil ?_
            refine Ex.ret ?_
            refine RetQ.mk () rfl (.tmp rfl .nil) (tB (by first | rfl | (exfalso; omega) | (exfalso; simp_all [samePhE_refl]; done))) [] (rfl) rfl (trivial)
end Go.Proofs.YtejedjgajcjejaaDoor
