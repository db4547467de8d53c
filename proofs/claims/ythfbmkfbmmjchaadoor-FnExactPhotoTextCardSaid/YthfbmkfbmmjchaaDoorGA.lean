/- What these functions of the program hand back, each proved by walking its operations. -/
import Derived.Test.YthfbmkfbmmjchaaDoorProg
import Derived.Test.YthfbmkfbmmjchaaDoorFw
import Derived.Test.YthfbmkfbmmjchaaDoorM1
set_option linter.unusedVariables false
set_option linter.unusedSimpArgs false
set_option maxRecDepth 4000
namespace Go.Proofs.YthfbmkfbmmjchaaDoor
open Go Go.Sx Go.RowKit Go.W Go.Proofs
attribute [local irreducible] Ex ExL ExD Op1 Free RetQ MutQ Reads CellO SegO LoadsAs
theorem e_103 : Enters Tryd.prog 103 := Enters.of Tryd.func103 rfl
theorem c_l00Min (a b : Int) : Ret Tryd.prog 103 [.int .i64 a, .int .i64 b] (fun w => True) (fun x : Unit => .int .i64 (min a b)) (fun x => []) (fun x => True) := by
  refine Ret.of e_103 Tryd.func103 rfl Tryd.ntmps103 rfl rfl (fun w hpre => ?_)
  refine Ex.regSeq (ExL.pures 1 rfl ?_)
  refine ExL.nil ?_
  refine Ex.seq ?_
  refine Ex.regSeq (ExL.pures 2 rfl ?_)
  refine ExL.lss rfl rfl rfl rfl rfl rfl (fun h1 => ?_) (fun h1 => ?_)
  · refine ExL.nil ?_
    refine Ex.cond_t rfl ?_
    refine Ex.regSeq (ExL.pures 2 rfl ?_)
    refine ExL.nil ?_
    refine Ex.ret ?_
    refine RetQ.mk () rfl (.tmp rfl .nil) (tI (by omega)) [] (rfl) rfl (trivial)
  · refine ExL.nil ?_
    refine Ex.cond_f rfl ?_
    refine Ex.skip ?_
    refine Ex.regSeq (ExL.pures 2 rfl ?_)
    refine ExL.nil ?_
    refine Ex.ret ?_
    refine RetQ.mk () rfl (.tmp rfl .nil) (tI (by omega)) [] (rfl) rfl (trivial)
theorem e_62 : Enters Tryd.prog 62 := Enters.of Tryd.func62 rfl
theorem c_l00In (a b c : Int) : Ret Tryd.prog 62 [.int .i64 a, .int .i64 b, .int .i64 c] (fun w => True) (fun x : Unit => .bool (decide (b ≤ a ∧ a ≤ c))) (fun x => []) (fun x => True) := by
  refine Ret.of e_62 Tryd.func62 rfl Tryd.ntmps62 rfl rfl (fun w hpre => ?_)
  refine Ex.regSeq (ExL.pures 1 rfl ?_)
  refine ExL.nil ?_
  refine Ex.regSeq (ExL.pures 2 rfl ?_)
  refine ExL.geq rfl rfl rfl rfl rfl rfl (fun h1 => ?_) (fun h1 => ?_)
  · refine ExL.pures 3 rfl ?_
    refine ExL.leq rfl rfl rfl rfl rfl rfl (fun h2 => ?_) (fun h2 => ?_)
    · refine ExL.pures 2 rfl ?_
      refine ExL.nil ?_
      refine Ex.ret ?_
      refine RetQ.mk () rfl (.tmp rfl .nil) (tB (by simp; omega)) [] (rfl) rfl (trivial)
    · refine ExL.pures 2 rfl ?_
      refine ExL.nil ?_
      refine Ex.ret ?_
      refine RetQ.mk () rfl (.tmp rfl .nil) (tB (by simp; omega)) [] (rfl) rfl (trivial)
  · refine ExL.pures 6 rfl ?_
    refine ExL.nil ?_
    refine Ex.ret ?_
    refine RetQ.mk () rfl (.tmp rfl .nil) (tB (by simp; omega)) [] (rfl) rfl (trivial)
theorem e_84 : Enters Tryd.prog 84 := Enters.of Tryd.func84 rfl
theorem c_within (a b c : Int) : Ret Tryd.prog 84 [.int .i64 a, .int .i64 b, .int .i64 c] (fun w => True) (fun x : Unit => .bool (decide (b ≤ a ∧ a ≤ c))) (fun x => []) (fun x => True) := by
  refine Ret.of e_84 Tryd.func84 rfl Tryd.ntmps84 rfl rfl (fun w hpre => ?_)
  refine Ex.regSeq (ExL.pures 1 rfl ?_)
  refine ExL.nil ?_
  refine Ex.regSeq (ExL.pures 2 rfl ?_)
  refine ExL.leq rfl rfl rfl rfl rfl rfl (fun h1 => ?_) (fun h1 => ?_)
  · refine ExL.pures 3 rfl ?_
    refine ExL.leq rfl rfl rfl rfl rfl rfl (fun h2 => ?_) (fun h2 => ?_)
    · refine ExL.pures 2 rfl ?_
      refine ExL.nil ?_
      refine Ex.ret ?_
      refine RetQ.mk () rfl (.tmp rfl .nil) (tB (by simp; omega)) [] (rfl) rfl (trivial)
    · refine ExL.pures 2 rfl ?_
      refine ExL.nil ?_
      refine Ex.ret ?_
      refine RetQ.mk () rfl (.tmp rfl .nil) (tB (by simp; omega)) [] (rfl) rfl (trivial)
  · refine ExL.pures 6 rfl ?_
    refine ExL.nil ?_
    refine Ex.ret ?_
    refine RetQ.mk () rfl (.tmp rfl .nil) (tB (by simp; omega)) [] (rfl) rfl (trivial)
theorem e_81 : Enters Tryd.prog 81 := Enters.of Tryd.func81 rfl
theorem c_l01Size (s : List Int) (hu : Nums 255 s) (As : Option Addr) (cs : Nat) (hl : s.length ≤ maxLen) : Ret Tryd.prog 81 [.slice As s.length cs] (fun w => Rd w As (s.flatMap (eI .u8))) (fun x : Unit => .int .i64 (size s)) (fun x => []) (fun x => True) := by
  refine Ret.of e_81 Tryd.func81 rfl Tryd.ntmps81 rfl rfl (fun w hpre => ?_)
  unfold maxLen at hl
  have hs := hpre.base
  refine Ex.regSeq (ExL.pures 1 rfl ?_)
  refine ExL.nil ?_
  refine Ex.regSeq (ExL.pures 1 rfl ?_)
  refine ExL.nil ?_
  refine Ex.seq ?_
  refine Ex.regSeq (ExL.pures 1 rfl ?_)
  refine ExL.nil ?_
  refine Ex.block ?_
  refine Ex.loopK (X := Nat) (fun k => [(3, .int .i64 (size (s.take k))), (4, .int .i64 k)]) (fun k => []) (fun k => k ≤ s.length) (fun k => s.length - k) 0 [(0, _), (2, _)] [] 0 [] ⟨rfl, rfl, trivial⟩ ⟨rfl, rfl, trivial⟩ (rfl) rfl (Nat.zero_le _) (fun k hI => ?_)
  have hI : k ≤ s.length := hI
  have hb := size_bd hu k
  have hm := size_mul hu k
  have hx := hu.at_ (by omega) k
  refine Ex.seq ?_
  refine Ex.regSeq (ExL.pures 3 rfl ?_)
  refine ExL.lss rfl rfl rfl rfl rfl rfl (fun h1 => ?_) (fun h1 => ?_)
  · refine ExL.nil ?_
    refine Ex.cond_t rfl ?_
    refine Ex.skip ?_
    refine Ex.seq ?_
    refine Ex.block ?_
    refine Ex.region (ExL.pures 3 rfl ?_)
    refine ExL.free (fr_indexAddrF (Reads.old hs) (eI_len .u8) rfl rfl rfl rfl rfl rfl (by omega)) rfl rfl rfl ?_
    refine ExL.free (fr_load rfl rfl rfl rfl (by first | exact cellN (Reads.old hs) (eI_len .u8) 0 0 rfl (by omega) rfl | exact cellF (Reads.old hs) (eI_len .u8) 0 0 rfl (by omega) rfl)) rfl rfl rfl ?_
    refine ExL.free (by first | exact fr_conv64 rfl rfl rfl rfl (by omega) | exact fr_conv rfl rfl rfl rfl) rfl rfl rfl ?_
    refine ExL.free (by first | exact fr_mul64 rfl rfl rfl (by omega) | exact fr_mul rfl rfl rfl) rfl rfl rfl ?_
    refine ExL.op rfl (op_ret rfl rfl rfl (c_l00Min _ _) (fun _ _ => trivial) rfl rfl (fun x2 hx2 => ?_))
    refine ExL.pures 1 rfl ?_
    refine ExL.nil ?_
    refine Ex.region (ExL.pures 1 rfl ?_)
    refine ExL.free (by first | exact fr_add64 rfl rfl rfl (by omega) | exact fr_add rfl rfl rfl) rfl rfl rfl ?_
    refine ExL.pures 1 rfl ?_
    refine ExL.nil ?_
    refine Hand.mk (k + 1) 0 [] ⟨agI (size_snoc s k (by omega)).symm, rfl, trivial⟩ ⟨rfl, rfl, trivial⟩ (rfl) rfl (by omega) (by omega)
  · refine ExL.nil ?_
    refine Ex.cond_f rfl ?_
    refine Ex.exit ?_
    refine Ex.regSeq (ExL.pures 2 rfl ?_)
    refine ExL.nil ?_
    refine Ex.ret ?_
    refine RetQ.mk () rfl (.tmp rfl .nil) (tI (by rw [List.take_of_length_le (by omega)])) [] (rfl) rfl (trivial)
theorem e_88 : Enters Tryd.prog 88 := Enters.of Tryd.func88 rfl
theorem c_size (s : List Int) (hu : Nums 255 s) (As : Option Addr) (cs : Nat) (hl : s.length ≤ maxLen) : Ret Tryd.prog 88 [.slice As s.length cs] (fun w => Rd w As (s.flatMap (eI .u8))) (fun x : Unit => .int .i64 (size s)) (fun x => []) (fun x => True) := by
  refine Ret.of e_88 Tryd.func88 rfl Tryd.ntmps88 rfl rfl (fun w hpre => ?_)
  unfold maxLen at hl
  have hs := hpre.base
  refine Ex.regSeq (ExL.pures 1 rfl ?_)
  refine ExL.nil ?_
  refine Ex.regSeq (ExL.pures 1 rfl ?_)
  refine ExL.nil ?_
  refine Ex.seq ?_
  refine Ex.regSeq (ExL.pures 3 rfl ?_)
  refine ExL.nil ?_
  refine Ex.block ?_
  refine Ex.loopK (X := Nat) (fun k => [(3, .int .i64 (size (s.take k))), (8, .int .i64 k)]) (fun k => []) (fun k => k ≤ s.length) (fun k => s.length - k) 0 [(2, _), (6, _), (7, _)] [] 0 [] ⟨rfl, rfl, trivial⟩ ⟨rfl, rfl, rfl, trivial⟩ (rfl) rfl (Nat.zero_le _) (fun k hI => ?_)
  have hI : k ≤ s.length := hI
  have hb := size_bd hu k
  have hm := size_mul hu k
  have hx := hu.at_ (by omega) k
  refine Ex.regSeq (ExL.pures 0 rfl ?_)
  refine ExL.lss rfl rfl rfl rfl rfl rfl (fun h1 => ?_) (fun h1 => ?_)
  · refine ExL.nil ?_
    refine Ex.seq ?_
    refine Ex.cond_t rfl ?_
    refine Ex.skip ?_
    refine Ex.seq ?_
    refine Ex.block ?_
    refine Ex.regSeq (ExL.pures 0 rfl ?_)
    refine ExL.free (fr_indexAddrF (Reads.old hs) (eI_len .u8) rfl rfl rfl rfl rfl rfl (by omega)) rfl rfl rfl ?_
    refine ExL.free (fr_load rfl rfl rfl rfl (by first | exact cellN (Reads.old hs) (eI_len .u8) 0 0 rfl (by omega) rfl | exact cellF (Reads.old hs) (eI_len .u8) 0 0 rfl (by omega) rfl)) rfl rfl rfl ?_
    refine ExL.pures 1 rfl ?_
    refine ExL.nil ?_
    refine Ex.region (ExL.pures 2 rfl ?_)
    refine ExL.free (by first | exact fr_conv64 rfl rfl rfl rfl (by omega) | exact fr_conv rfl rfl rfl rfl) rfl rfl rfl ?_
    refine ExL.free (by first | exact fr_mul64 rfl rfl rfl (by omega) | exact fr_mul rfl rfl rfl) rfl rfl rfl ?_
    refine ExL.free (fr_min rfl rfl rfl) rfl rfl rfl ?_
    refine ExL.pures 1 rfl ?_
    refine ExL.nil ?_
    refine Ex.region (ExL.pures 0 rfl ?_)
    refine ExL.free (by first | exact fr_add64 rfl rfl rfl (by omega) | exact fr_add rfl rfl rfl) rfl rfl rfl ?_
    refine ExL.pures 1 rfl ?_
    refine ExL.nil ?_
    refine Hand.mk (k + 1) 0 [] ⟨agI (size_snoc s k (by omega)).symm, rfl, trivial⟩ ⟨rfl, rfl, rfl, trivial⟩ (rfl) rfl (by omega) (by omega)
  · refine ExL.nil ?_
    refine Ex.seq ?_
    refine Ex.cond_f rfl ?_
    refine Ex.exit ?_
    refine Ex.regSeq (ExL.pures 2 rfl ?_)
    refine ExL.nil ?_
    refine Ex.ret ?_
    refine RetQ.mk () rfl (.tmp rfl .nil) (tI (by rw [List.take_of_length_le (by omega)])) [] (rfl) rfl (trivial)
theorem e_85 : Enters Tryd.prog 85 := Enters.of Tryd.func85 rfl
theorem c_wheels (s : List Int) (As : Option Addr) (cs : Nat) : Ret Tryd.prog 85 [.slice As s.length cs] (fun w => True) (fun x : Unit => .int .i64 s.length) (fun x => []) (fun x => True) := by
  refine Ret.of e_85 Tryd.func85 rfl Tryd.ntmps85 rfl rfl (fun w hpre => ?_)
  refine Ex.regSeq (ExL.pures 1 rfl ?_)
  refine ExL.nil ?_
  refine Ex.regSeq (ExL.pures 3 rfl ?_)
  refine ExL.nil ?_
  refine Ex.ret ?_
  refine RetQ.mk () rfl (.tmp rfl .nil) (rfl) [] (rfl) rfl (trivial)
theorem e_50 : Enters Tryd.prog 50 := Enters.of Tryd.func50 rfl
theorem c_l01Ok (s : List Int) (hu : Nums 255 s) (As : Option Addr) (cs : Nat) (hl : s.length ≤ maxLen) : Ret Tryd.prog 50 [.slice As s.length cs] (fun w => Rd w As (s.flatMap (eI .u8))) (fun x : Unit => .bool (validStack s)) (fun x => []) (fun x => True) := by
  refine Ret.of e_50 Tryd.func50 rfl Tryd.ntmps50 rfl rfl (fun w hpre => ?_)
  unfold maxLen at hl
  have hs := hpre.base
  refine Ex.regSeq (ExL.pures 1 rfl ?_)
  refine ExL.nil ?_
  refine Ex.seq ?_
  refine Ex.regSeq (ExL.pures 2 rfl ?_)
  refine ExL.op rfl (op_ret rfl rfl rfl (c_l00In _ _ _) (fun _ _ => trivial) rfl rfl (fun x1 hx1 => ?_))
  refine ExL.pures 1 rfl ?_
  refine ExL.nil ?_
  refine Ex.cond rfl (fun hb2 => ?_) (fun hb2 => ?_)
  · replace hb2 := nd_t hb2
    refine Ex.regSeq (ExL.pures 1 rfl ?_)
    refine ExL.nil ?_
    refine Ex.ret ?_
    refine RetQ.mk () rfl (.tmp rfl .nil) (tB (by first | exact vs_len (by assumption) | exact vs_base (k := k) (by omega) (by omega) | (have hkl : k = s.length := (by omega); subst hkl; first | exact vs_yes (by assumption) hall (by omega) | exact vs_size (by omega)))) [] (rfl) rfl (trivial)
  · replace hb2 := nd_f hb2
    refine Ex.skip ?_
    refine Ex.seq ?_
    refine Ex.regSeq (ExL.pures 1 rfl ?_)
    refine ExL.nil ?_
    refine Ex.block ?_
    refine Ex.loopK (X := Nat) (fun k => [(3, .int .i64 k)]) (fun k => []) (fun k => k ≤ s.length ∧ ∀ i, i < k → 2 ≤ s.getD i 0 ∧ s.getD i 0 ≤ 100) (fun k => s.length - k) 0 [(0, _)] [] 0 [] ⟨rfl, trivial⟩ ⟨rfl, trivial⟩ (rfl) rfl ⟨Nat.zero_le _, fun i hi => by omega⟩ (fun k hI => ?_)
    have hI : k ≤ s.length ∧ ∀ i, i < k → 2 ≤ s.getD i 0 ∧ s.getD i 0 ≤ 100 := hI
    obtain ⟨hk, hall⟩ := hI
    refine Ex.seq ?_
    refine Ex.regSeq (ExL.pures 3 rfl ?_)
    refine ExL.lss rfl rfl rfl rfl rfl rfl (fun h3 => ?_) (fun h3 => ?_)
    · refine ExL.nil ?_
      refine Ex.cond_t rfl ?_
      refine Ex.skip ?_
      refine Ex.seq ?_
      refine Ex.block ?_
      refine Ex.regSeq (ExL.pures 2 rfl ?_)
      refine ExL.free (fr_indexAddrF (Reads.old hs) (eI_len .u8) rfl rfl rfl rfl rfl rfl (by omega)) rfl rfl rfl ?_
      refine ExL.free (fr_load rfl rfl rfl rfl (by first | exact cellN (Reads.old hs) (eI_len .u8) 0 0 rfl (by omega) rfl | exact cellF (Reads.old hs) (eI_len .u8) 0 0 rfl (by omega) rfl)) rfl rfl rfl ?_
      refine ExL.lss rfl rfl rfl rfl rfl rfl (fun h4 => ?_) (fun h4 => ?_)
      · refine ExL.pures 7 rfl ?_
        refine ExL.nil ?_
        refine Ex.cond_t rfl ?_
        refine Ex.regSeq (ExL.pures 1 rfl ?_)
        refine ExL.nil ?_
        refine Ex.ret ?_
        refine RetQ.mk () rfl (.tmp rfl .nil) (tB (by first | exact vs_len (by assumption) | exact vs_base (k := k) (by omega) (by omega) | (have hkl : k = s.length := (by omega); subst hkl; first | exact vs_yes (by assumption) hall (by omega) | exact vs_size (by omega)))) [] (rfl) rfl (trivial)
      · refine ExL.pures 3 rfl ?_
        refine ExL.free (fr_indexAddrF (Reads.old hs) (eI_len .u8) rfl rfl rfl rfl rfl rfl (by omega)) rfl rfl rfl ?_
        refine ExL.free (fr_load rfl rfl rfl rfl (by first | exact cellN (Reads.old hs) (eI_len .u8) 0 0 rfl (by omega) rfl | exact cellF (Reads.old hs) (eI_len .u8) 0 0 rfl (by omega) rfl)) rfl rfl rfl ?_
        refine ExL.gtr rfl rfl rfl rfl rfl rfl (fun h5 => ?_) (fun h5 => ?_)
        · refine ExL.pures 1 rfl ?_
          refine ExL.nil ?_
          refine Ex.cond_t rfl ?_
          refine Ex.regSeq (ExL.pures 1 rfl ?_)
          refine ExL.nil ?_
          refine Ex.ret ?_
          refine RetQ.mk () rfl (.tmp rfl .nil) (tB (by first | exact vs_len (by assumption) | exact vs_base (k := k) (by omega) (by omega) | (have hkl : k = s.length := (by omega); subst hkl; first | exact vs_yes (by assumption) hall (by omega) | exact vs_size (by omega)))) [] (rfl) rfl (trivial)
        · refine ExL.pures 1 rfl ?_
          refine ExL.nil ?_
          refine Ex.cond_f rfl ?_
          refine Ex.skip ?_
          refine Ex.region (ExL.pures 1 rfl ?_)
          refine ExL.free (by first | exact fr_add64 rfl rfl rfl (by omega) | exact fr_add rfl rfl rfl) rfl rfl rfl ?_
          refine ExL.pures 1 rfl ?_
          refine ExL.nil ?_
          refine Hand.mk (k + 1) 0 [] ⟨rfl, trivial⟩ ⟨rfl, trivial⟩ (rfl) rfl (⟨by omega, all_snoc hall (by omega)⟩) (by omega)
    · refine ExL.nil ?_
      refine Ex.cond_f rfl ?_
      refine Ex.exit ?_
      refine Ex.regSeq (ExL.pures 1 rfl ?_)
      refine ExL.op rfl (op_ret rfl rfl rfl (c_l01Size _ (by assumption) _ _ (by first | assumption | omega | (unfold maxLen; omega))) (Reads.get (Reads.old hs)) rfl rfl (fun x6 hx6 => ?_))
      refine ExL.leq rfl rfl rfl rfl rfl rfl (fun h7 => ?_) (fun h7 => ?_)
      · refine ExL.pures 1 rfl ?_
        refine ExL.nil ?_
        refine Ex.ret ?_
        refine RetQ.mk () rfl (.tmp rfl .nil) (tB (by first | exact vs_len (by assumption) | exact vs_base (k := k) (by omega) (by omega) | (have hkl : k = s.length := (by omega); subst hkl; first | exact vs_yes (by assumption) hall (by omega) | exact vs_size (by omega)))) [] (rfl) rfl (trivial)
      · refine ExL.pures 1 rfl ?_
        refine ExL.nil ?_
        refine Ex.ret ?_
        refine RetQ.mk () rfl (.tmp rfl .nil) (tB (by first | exact vs_len (by assumption) | exact vs_base (k := k) (by omega) (by omega) | (have hkl : k = s.length := (by omega); subst hkl; first | exact vs_yes (by assumption) hall (by omega) | exact vs_size (by omega)))) [] (rfl) rfl (trivial)
theorem e_29 : Enters Tryd.prog 29 := Enters.of Tryd.func29 rfl
theorem c_l07Act (a : VAct) : Ret Tryd.prog 29 [.agg (encA a).toArray] (fun w => True) (fun x : Unit => .bool (validAct a)) (fun x => []) (fun x => True) := by
  refine Ret.of e_29 Tryd.func29 rfl Tryd.ntmps29 rfl rfl (fun w hpre => ?_)
  refine Ex.regSeq (ExL.pures 0 rfl ?_)
  refine ExL.op rfl (op_box rfl rfl rfl rfl rfl (fun b1 => ?_))
  refine ExL.pures 1 rfl ?_
  refine ExL.nil ?_
  refine Ex.seq ?_
  refine Ex.regSeq (ExL.pures 1 rfl ?_)
  refine ExL.free (fr_load rfl rfl rfl rfl (CellO.blk (i := 0) rfl rfl)) rfl rfl rfl ?_
  refine ExL.nil ?_
  refine Ex.block ?_
  refine Ex.seq ?_
  refine Ex.regSeq (ExL.pures 0 rfl ?_)
  refine ExL.eql rfl rfl rfl rfl rfl rfl (fun h2 => ?_) (fun h2 => ?_)
  · refine ExL.pures 1 rfl ?_
    refine ExL.nil ?_
    refine Ex.cond_t rfl ?_
    refine Ex.skip ?_
    refine Ex.cond_t rfl ?_
    refine Ex.regSeq (ExL.pures 1 rfl ?_)
    refine ExL.free (fr_load rfl rfl rfl rfl (CellO.blk (i := 0) rfl rfl)) rfl rfl rfl ?_
    refine ExL.op rfl (op_ret rfl rfl rfl (c_l00In _ _ _) (fun _ _ => trivial) rfl rfl (fun x3 hx3 => ?_))
    refine ExL.pures 1 rfl ?_
    refine ExL.nil ?_
    refine Ex.ret ?_
    refine RetQ.mk () rfl (.tmp rfl .nil) (tB (by unfold validAct; first | exact decide_eq_decide.2 (by simp only [*]; omega) | exact decide_eq_decide.2 (by omega) | exact dec_t (by omega) | exact dec_f (by omega))) [] (rfl) rfl (trivial)
  · refine ExL.pures 1 rfl ?_
    refine ExL.nil ?_
    refine Ex.cond_f rfl ?_
    refine Ex.region (ExL.pures 0 rfl ?_)
    refine ExL.eql rfl rfl rfl rfl rfl rfl (fun h4 => ?_) (fun h4 => ?_)
    · refine ExL.pures 1 rfl ?_
      refine ExL.nil ?_
      refine Ex.cond_t rfl ?_
      refine Ex.regSeq (ExL.pures 1 rfl ?_)
      refine ExL.free (fr_load rfl rfl rfl rfl (CellO.blk (i := 0) rfl rfl)) rfl rfl rfl ?_
      refine ExL.op rfl (op_ret rfl rfl rfl (c_l00In _ _ _) (fun _ _ => trivial) rfl rfl (fun x5 hx5 => ?_))
      refine ExL.pures 1 rfl ?_
      refine ExL.nil ?_
      refine Ex.ret ?_
      refine RetQ.mk () rfl (.tmp rfl .nil) (tB (by unfold validAct; first | exact decide_eq_decide.2 (by simp only [*]; omega) | exact decide_eq_decide.2 (by omega) | exact dec_t (by omega) | exact dec_f (by omega))) [] (rfl) rfl (trivial)
    · refine ExL.pures 1 rfl ?_
      refine ExL.nil ?_
      refine Ex.cond_f rfl ?_
      refine Ex.regSeq (ExL.pures 0 rfl ?_)
      refine ExL.eql rfl rfl rfl rfl rfl rfl (fun h6 => ?_) (fun h6 => ?_)
      · refine ExL.pures 1 rfl ?_
        refine ExL.nil ?_
        refine Ex.cond_t rfl ?_
        refine Ex.regSeq (ExL.pures 1 rfl ?_)
        refine ExL.free (fr_load rfl rfl rfl rfl (CellO.blk (i := 0) rfl rfl)) rfl rfl rfl ?_
        refine ExL.op rfl (op_ret rfl rfl rfl (c_l00In _ _ _) (fun _ _ => trivial) rfl rfl (fun x7 hx7 => ?_))
        refine ExL.pures 1 rfl ?_
        refine ExL.nil ?_
        refine Ex.ret ?_
        refine RetQ.mk () rfl (.tmp rfl .nil) (tB (by unfold validAct; first | exact decide_eq_decide.2 (by simp only [*]; omega) | exact decide_eq_decide.2 (by omega) | exact dec_t (by omega) | exact dec_f (by omega))) [] (rfl) rfl (trivial)
      · refine ExL.pures 1 rfl ?_
        refine ExL.nil ?_
        refine Ex.cond_f rfl ?_
        refine Ex.seq ?_
        refine Ex.regSeq (ExL.pures 0 rfl ?_)
        refine ExL.eql rfl rfl rfl rfl rfl rfl (fun h8 => ?_) (fun h8 => ?_)
        · refine ExL.pures 1 rfl ?_
          refine ExL.nil ?_
          refine Ex.cond_t rfl ?_
          refine Ex.skip ?_
          refine Ex.cond_t rfl ?_
          refine Ex.regSeq (ExL.pures 1 rfl ?_)
          refine ExL.free (fr_load rfl rfl rfl rfl (CellO.blk (i := 0) rfl rfl)) rfl rfl rfl ?_
          refine ExL.eql rfl rfl rfl rfl rfl rfl (fun h9 => ?_) (fun h9 => ?_)
          · refine ExL.pures 1 rfl ?_
            refine ExL.nil ?_
            refine Ex.ret ?_
            refine RetQ.mk () rfl (.tmp rfl .nil) (tB (by unfold validAct; first | exact decide_eq_decide.2 (by simp only [*]; omega) | exact decide_eq_decide.2 (by omega) | exact dec_t (by omega) | exact dec_f (by omega))) [] (rfl) rfl (trivial)
          · refine ExL.pures 1 rfl ?_
            refine ExL.nil ?_
            refine Ex.ret ?_
            refine RetQ.mk () rfl (.tmp rfl .nil) (tB (by unfold validAct; first | exact decide_eq_decide.2 (by simp only [*]; omega) | exact decide_eq_decide.2 (by omega) | exact dec_t (by omega) | exact dec_f (by omega))) [] (rfl) rfl (trivial)
        · refine ExL.pures 1 rfl ?_
          refine ExL.nil ?_
          refine Ex.cond_f rfl ?_
          refine Ex.region (ExL.pures 0 rfl ?_)
          refine ExL.eql rfl rfl rfl rfl rfl rfl (fun h10 => ?_) (fun h10 => ?_)
          · refine ExL.pures 1 rfl ?_
            refine ExL.nil ?_
            refine Ex.cond_t rfl ?_
            refine Ex.regSeq (ExL.pures 1 rfl ?_)
            refine ExL.free (fr_load rfl rfl rfl rfl (CellO.blk (i := 0) rfl rfl)) rfl rfl rfl ?_
            refine ExL.eql rfl rfl rfl rfl rfl rfl (fun h11 => ?_) (fun h11 => ?_)
            · refine ExL.pures 1 rfl ?_
              refine ExL.nil ?_
              refine Ex.ret ?_
              refine RetQ.mk () rfl (.tmp rfl .nil) (tB (by unfold validAct; first | exact decide_eq_decide.2 (by simp only [*]; omega) | exact decide_eq_decide.2 (by omega) | exact dec_t (by omega) | exact dec_f (by omega))) [] (rfl) rfl (trivial)
            · refine ExL.pures 1 rfl ?_
              refine ExL.nil ?_
              refine Ex.ret ?_
              refine RetQ.mk () rfl (.tmp rfl .nil) (tB (by unfold validAct; first | exact decide_eq_decide.2 (by simp only [*]; omega) | exact decide_eq_decide.2 (by omega) | exact dec_t (by omega) | exact dec_f (by omega))) [] (rfl) rfl (trivial)
          · refine ExL.pures 1 rfl ?_
            refine ExL.nil ?_
            refine Ex.cond_f rfl ?_
            refine Ex.skip ?_
            refine Ex.regSeq (ExL.pures 1 rfl ?_)
            refine ExL.nil ?_
            refine Ex.ret ?_
            refine RetQ.mk () rfl (.tmp rfl .nil) (tB (by unfold validAct; first | exact decide_eq_decide.2 (by simp only [*]; omega) | exact decide_eq_decide.2 (by omega) | exact dec_t (by omega) | exact dec_f (by omega))) [] (rfl) rfl (trivial)
theorem e_67 : Enters Tryd.prog 67 := Enters.of Tryd.func67 rfl
theorem c_ValidAct (a : VAct) : Ret Tryd.prog 67 [.agg (encA a).toArray] (fun w => True) (fun x : Unit => .bool (validAct a)) (fun x => []) (fun x => True) := by
  refine Ret.of e_67 Tryd.func67 rfl Tryd.ntmps67 rfl rfl (fun w hpre => ?_)
  refine Ex.regSeq (ExL.pures 0 rfl ?_)
  refine ExL.op rfl (op_box rfl rfl rfl rfl rfl (fun b1 => ?_))
  refine ExL.pures 1 rfl ?_
  refine ExL.nil ?_
  refine Ex.seq ?_
  refine Ex.regSeq (ExL.pures 1 rfl ?_)
  refine ExL.free (fr_load rfl rfl rfl rfl (CellO.blk (i := 0) rfl rfl)) rfl rfl rfl ?_
  refine ExL.nil ?_
  refine Ex.block ?_
  refine Ex.seq ?_
  refine Ex.regSeq (ExL.pures 0 rfl ?_)
  refine ExL.eql rfl rfl rfl rfl rfl rfl (fun h2 => ?_) (fun h2 => ?_)
  · refine ExL.pures 1 rfl ?_
    refine ExL.nil ?_
    refine Ex.cond_t rfl ?_
    refine Ex.skip ?_
    refine Ex.cond_t rfl ?_
    refine Ex.regSeq (ExL.pures 1 rfl ?_)
    refine ExL.free (fr_load rfl rfl rfl rfl (CellO.blk (i := 0) rfl rfl)) rfl rfl rfl ?_
    refine ExL.op rfl (op_ret rfl rfl rfl (c_within _ _ _) (fun _ _ => trivial) rfl rfl (fun x3 hx3 => ?_))
    refine ExL.pures 1 rfl ?_
    refine ExL.nil ?_
    refine Ex.ret ?_
    refine RetQ.mk () rfl (.tmp rfl .nil) (tB (by unfold validAct; first | exact decide_eq_decide.2 (by simp only [*]; omega) | exact decide_eq_decide.2 (by omega) | exact dec_t (by omega) | exact dec_f (by omega))) [] (rfl) rfl (trivial)
  · refine ExL.pures 1 rfl ?_
    refine ExL.nil ?_
    refine Ex.cond_f rfl ?_
    refine Ex.region (ExL.pures 0 rfl ?_)
    refine ExL.eql rfl rfl rfl rfl rfl rfl (fun h4 => ?_) (fun h4 => ?_)
    · refine ExL.pures 1 rfl ?_
      refine ExL.nil ?_
      refine Ex.cond_t rfl ?_
      refine Ex.regSeq (ExL.pures 1 rfl ?_)
      refine ExL.free (fr_load rfl rfl rfl rfl (CellO.blk (i := 0) rfl rfl)) rfl rfl rfl ?_
      refine ExL.op rfl (op_ret rfl rfl rfl (c_within _ _ _) (fun _ _ => trivial) rfl rfl (fun x5 hx5 => ?_))
      refine ExL.pures 1 rfl ?_
      refine ExL.nil ?_
      refine Ex.ret ?_
      refine RetQ.mk () rfl (.tmp rfl .nil) (tB (by unfold validAct; first | exact decide_eq_decide.2 (by simp only [*]; omega) | exact decide_eq_decide.2 (by omega) | exact dec_t (by omega) | exact dec_f (by omega))) [] (rfl) rfl (trivial)
    · refine ExL.pures 1 rfl ?_
      refine ExL.nil ?_
      refine Ex.cond_f rfl ?_
      refine Ex.regSeq (ExL.pures 0 rfl ?_)
      refine ExL.eql rfl rfl rfl rfl rfl rfl (fun h6 => ?_) (fun h6 => ?_)
      · refine ExL.pures 1 rfl ?_
        refine ExL.nil ?_
        refine Ex.cond_t rfl ?_
        refine Ex.regSeq (ExL.pures 1 rfl ?_)
        refine ExL.free (fr_load rfl rfl rfl rfl (CellO.blk (i := 0) rfl rfl)) rfl rfl rfl ?_
        refine ExL.op rfl (op_ret rfl rfl rfl (c_within _ _ _) (fun _ _ => trivial) rfl rfl (fun x7 hx7 => ?_))
        refine ExL.pures 1 rfl ?_
        refine ExL.nil ?_
        refine Ex.ret ?_
        refine RetQ.mk () rfl (.tmp rfl .nil) (tB (by unfold validAct; first | exact decide_eq_decide.2 (by simp only [*]; omega) | exact decide_eq_decide.2 (by omega) | exact dec_t (by omega) | exact dec_f (by omega))) [] (rfl) rfl (trivial)
      · refine ExL.pures 1 rfl ?_
        refine ExL.nil ?_
        refine Ex.cond_f rfl ?_
        refine Ex.seq ?_
        refine Ex.regSeq (ExL.pures 0 rfl ?_)
        refine ExL.eql rfl rfl rfl rfl rfl rfl (fun h8 => ?_) (fun h8 => ?_)
        · refine ExL.pures 1 rfl ?_
          refine ExL.nil ?_
          refine Ex.cond_t rfl ?_
          refine Ex.skip ?_
          refine Ex.cond_t rfl ?_
          refine Ex.regSeq (ExL.pures 1 rfl ?_)
          refine ExL.free (fr_load rfl rfl rfl rfl (CellO.blk (i := 0) rfl rfl)) rfl rfl rfl ?_
          refine ExL.eql rfl rfl rfl rfl rfl rfl (fun h9 => ?_) (fun h9 => ?_)
          · refine ExL.pures 1 rfl ?_
            refine ExL.nil ?_
            refine Ex.ret ?_
            refine RetQ.mk () rfl (.tmp rfl .nil) (tB (by unfold validAct; first | exact decide_eq_decide.2 (by simp only [*]; omega) | exact decide_eq_decide.2 (by omega) | exact dec_t (by omega) | exact dec_f (by omega))) [] (rfl) rfl (trivial)
          · refine ExL.pures 1 rfl ?_
            refine ExL.nil ?_
            refine Ex.ret ?_
            refine RetQ.mk () rfl (.tmp rfl .nil) (tB (by unfold validAct; first | exact decide_eq_decide.2 (by simp only [*]; omega) | exact decide_eq_decide.2 (by omega) | exact dec_t (by omega) | exact dec_f (by omega))) [] (rfl) rfl (trivial)
        · refine ExL.pures 1 rfl ?_
          refine ExL.nil ?_
          refine Ex.cond_f rfl ?_
          refine Ex.region (ExL.pures 0 rfl ?_)
          refine ExL.eql rfl rfl rfl rfl rfl rfl (fun h10 => ?_) (fun h10 => ?_)
          · refine ExL.pures 1 rfl ?_
            refine ExL.nil ?_
            refine Ex.cond_t rfl ?_
            refine Ex.regSeq (ExL.pures 1 rfl ?_)
            refine ExL.free (fr_load rfl rfl rfl rfl (CellO.blk (i := 0) rfl rfl)) rfl rfl rfl ?_
            refine ExL.eql rfl rfl rfl rfl rfl rfl (fun h11 => ?_) (fun h11 => ?_)
            · refine ExL.pures 1 rfl ?_
              refine ExL.nil ?_
              refine Ex.ret ?_
              refine RetQ.mk () rfl (.tmp rfl .nil) (tB (by unfold validAct; first | exact decide_eq_decide.2 (by simp only [*]; omega) | exact decide_eq_decide.2 (by omega) | exact dec_t (by omega) | exact dec_f (by omega))) [] (rfl) rfl (trivial)
            · refine ExL.pures 1 rfl ?_
              refine ExL.nil ?_
              refine Ex.ret ?_
              refine RetQ.mk () rfl (.tmp rfl .nil) (tB (by unfold validAct; first | exact decide_eq_decide.2 (by simp only [*]; omega) | exact decide_eq_decide.2 (by omega) | exact dec_t (by omega) | exact dec_f (by omega))) [] (rfl) rfl (trivial)
          · refine ExL.pures 1 rfl ?_
            refine ExL.nil ?_
            refine Ex.cond_f rfl ?_
            refine Ex.skip ?_
            refine Ex.regSeq (ExL.pures 1 rfl ?_)
            refine ExL.nil ?_
            refine Ex.ret ?_
            refine RetQ.mk () rfl (.tmp rfl .nil) (tB (by unfold validAct; first | exact decide_eq_decide.2 (by simp only [*]; omega) | exact decide_eq_decide.2 (by omega) | exact dec_t (by omega) | exact dec_f (by omega))) [] (rfl) rfl (trivial)
theorem e_31 : Enters Tryd.prog 31 := Enters.of Tryd.func31 rfl
theorem c_toAct (a : VAct) : Ret Tryd.prog 31 [.agg (encA a).toArray] (fun w => True) (fun x : Unit => .agg (encA a).toArray) (fun x => []) (fun x => True) := by
  refine Ret.of e_31 Tryd.func31 rfl Tryd.ntmps31 rfl rfl (fun w hpre => ?_)
  refine Ex.regSeq (ExL.pures 0 rfl ?_)
  refine ExL.op rfl (op_box rfl rfl rfl rfl rfl (fun b1 => ?_))
  refine ExL.op rfl (op_alloc rfl rfl rfl rfl rfl (fun b2 => ?_))
  refine ExL.nil ?_
  refine Ex.regSeq (ExL.pures 0 rfl ?_)
  refine ExL.op rfl (op_alloc rfl rfl rfl rfl rfl (fun b3 => ?_))
  refine ExL.nil ?_
  refine Ex.regSeq (ExL.pures 1 rfl ?_)
  refine ExL.free (fr_load rfl rfl rfl rfl (CellO.blk (i := 2) rfl rfl)) rfl rfl rfl ?_
  refine ExL.pures 1 rfl ?_
  refine ExL.op rfl (op_storeC (i := 0) rfl rfl rfl rfl rfl rfl rfl rfl rfl rfl ?_)
  refine ExL.nil ?_
  refine Ex.regSeq (ExL.pures 1 rfl ?_)
  refine ExL.free (fr_load rfl rfl rfl rfl (CellO.blk (i := 2) rfl rfl)) rfl rfl rfl ?_
  refine ExL.pures 1 rfl ?_
  refine ExL.op rfl (op_storeC (i := 0) rfl rfl rfl rfl rfl rfl rfl rfl rfl rfl ?_)
  refine ExL.nil ?_
  refine Ex.regSeq (ExL.pures 0 rfl ?_)
  refine ExL.free (fr_loadN rfl rfl rfl rfl rfl (SegO.whole (i := 0) rfl)) rfl rfl rfl ?_
  refine ExL.op rfl (op_storeC (i := 1) rfl rfl rfl rfl rfl rfl rfl rfl rfl rfl ?_)
  refine ExL.nil ?_
  refine Ex.ret ?_
  refine RetQ.mk () rfl (.cell rfl (.many rfl rfl rfl (SegO.whole (i := 1) rfl)) .nil) (rfl) [] (rfl) rfl (trivial)
end Go.Proofs.YthfbmkfbmmjchaaDoor
