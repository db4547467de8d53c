/- What these functions of the program hand back, each proved by walking its operations. -/
import Derived.Test.YtplljnddhkleaaaProg
import Derived.Test.YtplljnddhkleaaaFw
import Derived.Test.YtplljnddhkleaaaM39
import Derived.Test.YtplljnddhkleaaaGV
set_option linter.unusedVariables false
set_option linter.unusedSimpArgs false
set_option maxRecDepth 4000
namespace Go.Proofs.Ytplljnddhkleaaa
open Go Go.Sx Go.RowKit Go.W Go.Proofs
attribute [local irreducible] Ex ExL ExD Op1 Free RetQ MutQ Reads CellO SegO LoadsAs
theorem e_22 : Enters Try.prog 22 := Enters.of Try.func22 rfl
theorem c_markStack (s : List Int) (A : Option Addr) (c : Nat) (n : Nat) (hn : n ≤ 100000000 ∧ s.length = n) (k : Int) (hk : 0 ≤ k ∧ k ≤ 1000000000) : Mut Try.prog 22 [.slice A n c, .int .i64 k] [.row (.slice A n c) 5 1 n (s.flatMap (eI .u8))] (fun base w0 F => True) (fun x : Unit => .int .i64 (k + n)) (fun x => [.row (.slice A n c) 5 1 n ((mk8 n k).flatMap (eI .u8))]) (fun x => True) := by
  refine Mut.of e_22 Try.func22 rfl Try.ntmps22 rfl rfl (fun base w0 F hfr => ?_)
  obtain ⟨hn1, hsl⟩ := hn
  have hml : (mk8 n k).length = s.length := by rw [mk8_len, hsl]
  have hm0 : maxLen = 9223372036854775807 := rfl
  refine Ex.regSeq (ExL.pures 1 rfl ?_)
  refine ExL.nil ?_
  refine Ex.seq ?_
  refine Ex.regSeq (ExL.pures 1 rfl ?_)
  refine ExL.nil ?_
  refine Ex.block ?_
  refine Ex.loopK (X := Nat) (fun i => [(1, .int .i64 (k + i)), (5, .int .i64 i)]) (fun i => [.row (.slice A n c) 5 1 n ((over (mk8 n k) s i).flatMap (eI .u8))]) (fun i => i ≤ n) (fun i => n - i) 0 [(0, _), (4, _)] (F) 1 [0] ⟨agI (by omega), rfl, trivial⟩ ⟨rfl, rfl, trivial⟩ (pkR (by rw [over_zero])) rfl (Nat.zero_le _) (fun i hI => ?_)
  have hI : i ≤ n := hI
  refine Ex.seq ?_
  refine Ex.regSeq (ExL.pures 3 rfl ?_)
  refine ExL.lss rfl rfl rfl rfl rfl rfl (fun h1 => ?_) (fun h1 => ?_)
  · refine ExL.nil ?_
    refine Ex.cond_t rfl ?_
    refine Ex.skip ?_
    refine Ex.seq ?_
    refine Ex.block ?_
    refine Ex.regSeq (ExL.pures 3 rfl ?_)
    refine ExL.free (fr_convW ((k + i) % 256) rfl rfl rfl rfl (wrap_u8_mod _)) rfl rfl rfl ?_
    refine ExL.free (fr_indexAddrR (sz := 1) 0 rfl rfl rfl rfl rfl rfl (by omega)) rfl rfl rfl ?_
    refine ExL.op rfl (op_storeRow (i := 0) rfl rfl rfl rfl rfl rfl rfl rfl (room (eI_len .u8) (k := i) (by rw [over_len hml]; omega) (by first | rfl | simp) rfl) (List.cons_ne_nil _ _) rfl ?_)
    refine ExL.nil ?_
    refine Ex.region (ExL.pures 1 rfl ?_)
    refine ExL.free (by first | exact fr_add64 rfl rfl rfl (by omega) | exact fr_add rfl rfl rfl) rfl rfl rfl ?_
    refine ExL.pures 1 rfl ?_
    refine ExL.nil ?_
    refine Ex.region (ExL.pures 1 rfl ?_)
    refine ExL.free (by first | exact fr_add64 rfl rfl rfl (by omega) | exact fr_add rfl rfl rfl) rfl rfl rfl ?_
    refine ExL.pures 1 rfl ?_
    refine ExL.nil ?_
    refine Hand.mk (i + 1) 1 [0] ⟨agI (by omega), rfl, trivial⟩ ⟨rfl, rfl, trivial⟩ (pkR (over_put (eI_len .u8) 0 hml (by omega) (by simp) (congrArg (eI .u8) (mk8_at (by omega)).symm))) rfl (by omega) (by omega)
  · refine ExL.nil ?_
    refine Ex.cond_f rfl ?_
    refine Ex.exit ?_
    obtain rfl : i = n := (by omega)
    refine Ex.regSeq (ExL.pures 2 rfl ?_)
    refine ExL.nil ?_
    refine Ex.ret ?_
    refine MutQ.mk () rfl (.tmp rfl .nil) (rfl) 1 [0] (pkR (by rw [← hsl, over_all (by rw [mk8_len])])) rfl (trivial)
theorem e_23 : Enters Try.prog 23 := Enters.of Try.func23 rfl
theorem c_markInt64S (s : List Int) (A : Option Addr) (c : Nat) (n : Nat) (hn : n ≤ 100000000 ∧ s.length = n) (k : Int) (hk : 0 ≤ k ∧ k ≤ 1000000000) : Mut Try.prog 23 [.slice A n c, .int .i64 k] [.row (.slice A n c) 2 1 n (s.flatMap (eI .i64))] (fun base w0 F => True) (fun x : Unit => .int .i64 (k + n)) (fun x => [.row (.slice A n c) 2 1 n ((mkI n k).flatMap (eI .i64))]) (fun x => True) := by
  refine Mut.of e_23 Try.func23 rfl Try.ntmps23 rfl rfl (fun base w0 F hfr => ?_)
  obtain ⟨hn1, hsl⟩ := hn
  have hml : (mkI n k).length = s.length := by rw [mkI_len, hsl]
  have hm0 : maxLen = 9223372036854775807 := rfl
  refine Ex.regSeq (ExL.pures 1 rfl ?_)
  refine ExL.nil ?_
  refine Ex.seq ?_
  refine Ex.regSeq (ExL.pures 1 rfl ?_)
  refine ExL.nil ?_
  refine Ex.block ?_
  refine Ex.loopK (X := Nat) (fun i => [(1, .int .i64 (k + i)), (5, .int .i64 i)]) (fun i => [.row (.slice A n c) 2 1 n ((over (mkI n k) s i).flatMap (eI .i64))]) (fun i => i ≤ n) (fun i => n - i) 0 [(0, _), (4, _)] (F) 1 [0] ⟨agI (by omega), rfl, trivial⟩ ⟨rfl, rfl, trivial⟩ (pkR (by rw [over_zero])) rfl (Nat.zero_le _) (fun i hI => ?_)
  have hI : i ≤ n := hI
  refine Ex.seq ?_
  refine Ex.regSeq (ExL.pures 3 rfl ?_)
  refine ExL.lss rfl rfl rfl rfl rfl rfl (fun h1 => ?_) (fun h1 => ?_)
  · refine ExL.nil ?_
    refine Ex.cond_t rfl ?_
    refine Ex.skip ?_
    refine Ex.seq ?_
    refine Ex.block ?_
    refine Ex.regSeq (ExL.pures 3 rfl ?_)
    refine ExL.free (fr_indexAddrR (sz := 1) 0 rfl rfl rfl rfl rfl rfl (by omega)) rfl rfl rfl ?_
    refine ExL.op rfl (op_storeRow (i := 0) rfl rfl rfl rfl rfl rfl rfl rfl (room (eI_len .i64) (k := i) (by rw [over_len hml]; omega) (by first | rfl | simp) rfl) (List.cons_ne_nil _ _) rfl ?_)
    refine ExL.nil ?_
    refine Ex.region (ExL.pures 1 rfl ?_)
    refine ExL.free (by first | exact fr_add64 rfl rfl rfl (by omega) | exact fr_add rfl rfl rfl) rfl rfl rfl ?_
    refine ExL.pures 1 rfl ?_
    refine ExL.nil ?_
    refine Ex.region (ExL.pures 1 rfl ?_)
    refine ExL.free (by first | exact fr_add64 rfl rfl rfl (by omega) | exact fr_add rfl rfl rfl) rfl rfl rfl ?_
    refine ExL.pures 1 rfl ?_
    refine ExL.nil ?_
    refine Hand.mk (i + 1) 1 [0] ⟨agI (by omega), rfl, trivial⟩ ⟨rfl, rfl, trivial⟩ (pkR (over_put (eI_len .i64) 0 hml (by omega) (by simp) (congrArg (eI .i64) (mkI_at (by omega)).symm))) rfl (by omega) (by omega)
  · refine ExL.nil ?_
    refine Ex.cond_f rfl ?_
    refine Ex.exit ?_
    obtain rfl : i = n := (by omega)
    refine Ex.regSeq (ExL.pures 2 rfl ?_)
    refine ExL.nil ?_
    refine Ex.ret ?_
    refine MutQ.mk () rfl (.tmp rfl .nil) (rfl) 1 [0] (pkR (by rw [← hsl, over_all (by rw [mkI_len])])) rfl (trivial)
theorem e_24 : Enters Try.prog 24 := Enters.of Try.func24 rfl
theorem c_heldInt64S (A : Option Addr) (c : Nat) (n : Nat) (hn : n ≤ 100000000) (k : Int) (hk : 0 ≤ k ∧ k ≤ 1000000000) : Ret Try.prog 24 [.slice A n c, .int .i64 k] (fun w => Rd w A ((mkI n k).flatMap (eI .i64))) (fun x : Unit => .int .i64 (k + n)) (fun x => []) (fun x => True) := by
  refine Ret.of e_24 Try.func24 rfl Try.ntmps24 rfl rfl (fun w hpre => ?_)
  have hs := hpre.base
  have hml := mkI_len n k
  rw [← hml]
  have hm0 : maxLen = 9223372036854775807 := rfl
  refine Ex.regSeq (ExL.pures 1 rfl ?_)
  refine ExL.nil ?_
  refine Ex.seq ?_
  refine Ex.regSeq (ExL.pures 1 rfl ?_)
  refine ExL.nil ?_
  refine Ex.block ?_
  refine Ex.loopK (X := Nat) (fun i => [(1, .int .i64 (k + i)), (5, .int .i64 i)]) (fun i => []) (fun i => i ≤ n) (fun i => n - i) 0 [(0, _)] [] 0 [] ⟨agI (by omega), rfl, trivial⟩ ⟨rfl, trivial⟩ (rfl) rfl (Nat.zero_le _) (fun i hI => ?_)
  have hI : i ≤ n := hI
  refine Ex.seq ?_
  refine Ex.regSeq (ExL.pures 3 rfl ?_)
  refine ExL.lss rfl rfl rfl rfl rfl rfl (fun h1 => ?_) (fun h1 => ?_)
  · refine ExL.nil ?_
    refine Ex.cond_t rfl ?_
    refine Ex.skip ?_
    refine Ex.seq ?_
    refine Ex.block ?_
    refine Ex.seq ?_
    refine Ex.regSeq (ExL.pures 2 rfl ?_)
    refine ExL.free (fr_indexAddrF (Reads.old hs) (eI_len .i64) rfl rfl rfl rfl rfl rfl (by omega)) rfl rfl rfl ?_
    refine ExL.free (fr_load rfl rfl rfl rfl (by first | exact cellN (Reads.old hs) (eI_len .i64) 0 0 rfl (by omega) rfl | exact cellF (Reads.old hs) (eI_len .i64) 0 0 rfl (by omega) rfl)) rfl rfl rfl ?_
    refine ExL.pures 1 rfl ?_
    refine ExL.free (fr_neq_f rfl rfl rfl (by rw [mkI_at (by omega)]; exact fun h => h rfl)) rfl rfl rfl ?_
    refine ExL.nil ?_
    refine Ex.cond_f rfl ?_
    refine Ex.skip ?_
    refine Ex.region (ExL.pures 1 rfl ?_)
    refine ExL.free (by first | exact fr_add64 rfl rfl rfl (by omega) | exact fr_add rfl rfl rfl) rfl rfl rfl ?_
    refine ExL.pures 1 rfl ?_
    refine ExL.nil ?_
    refine Ex.region (ExL.pures 1 rfl ?_)
    refine ExL.free (by first | exact fr_add64 rfl rfl rfl (by omega) | exact fr_add rfl rfl rfl) rfl rfl rfl ?_
    refine ExL.pures 1 rfl ?_
    refine ExL.nil ?_
    refine Hand.mk (i + 1) 0 [] ⟨agI (by omega), rfl, trivial⟩ ⟨rfl, trivial⟩ (rfl) rfl (by omega) (by omega)
  · refine ExL.nil ?_
    refine Ex.cond_f rfl ?_
    refine Ex.exit ?_
    refine Ex.regSeq (ExL.pures 2 rfl ?_)
    refine ExL.nil ?_
    refine Ex.ret ?_
    refine RetQ.mk () rfl (.tmp rfl .nil) (tI (by omega)) [] (rfl) rfl (trivial)
theorem e_21 : Enters Try.prog 21 := Enters.of Try.func21 rfl
theorem c_eqInt64S (s : List Int) (As : Option Addr) (cs : Nat) (hls : s.length ≤ maxLen) (t : List Int) (At : Option Addr) (ct : Nat) (hlt : t.length ≤ maxLen) : Ret Try.prog 21 [.slice As s.length cs, .slice At t.length ct] (fun w => Rd w As (s.flatMap (eI .i64)) ∧ Rd w At (t.flatMap (eI .i64))) (fun x : Unit => .bool (decide (s = t))) (fun x => []) (fun x => True) := by
  refine Ret.of e_21 Try.func21 rfl Try.ntmps21 rfl rfl (fun w hpre => ?_)
  have hs := hpre.1.base
  have ht := hpre.2.base
  have hm0 : maxLen = 9223372036854775807 := rfl
  refine Ex.regSeq (ExL.pures 1 rfl ?_)
  refine ExL.nil ?_
  refine Ex.seq ?_
  refine Ex.regSeq (ExL.pures 4 rfl ?_)
  refine ExL.neq rfl rfl rfl rfl rfl rfl (fun h1 => ?_) (fun h1 => ?_)
  · refine ExL.nil ?_
    refine Ex.cond_t rfl ?_
    refine Ex.regSeq (ExL.pures 1 rfl ?_)
    refine ExL.nil ?_
    refine Ex.ret ?_
    refine RetQ.mk () rfl (.tmp rfl .nil) (tB (by first | exact eq_len (by omega) | exact eq_no k (by assumption) | exact eq_yes (k := k) (by omega) (by omega) hall)) [] (rfl) rfl (trivial)
  · refine ExL.nil ?_
    refine Ex.cond_f rfl ?_
    refine Ex.skip ?_
    refine Ex.seq ?_
    refine Ex.regSeq (ExL.pures 1 rfl ?_)
    refine ExL.nil ?_
    refine Ex.block ?_
    refine Ex.loopK (X := Nat) (fun k => [(5, .int .i64 k)]) (fun k => []) (fun k => k ≤ s.length ∧ ∀ i, i < k → s.getD i 0 = t.getD i 0) (fun k => s.length - k) 0 [(0, _), (1, _)] [] 0 [] ⟨rfl, trivial⟩ ⟨rfl, rfl, trivial⟩ (rfl) rfl ⟨Nat.zero_le _, fun i hi => by omega⟩ (fun k hI => ?_)
    have hI : k ≤ s.length ∧ ∀ i, i < k → s.getD i 0 = t.getD i 0 := hI
    obtain ⟨hk, hall⟩ := hI
    refine Ex.seq ?_
    refine Ex.regSeq (ExL.pures 3 rfl ?_)
    refine ExL.lss rfl rfl rfl rfl rfl rfl (fun h2 => ?_) (fun h2 => ?_)
    · refine ExL.nil ?_
      refine Ex.cond_t rfl ?_
      refine Ex.skip ?_
      refine Ex.seq ?_
      refine Ex.block ?_
      refine Ex.drawSeqM rfl ?_
      refine ExD.take (i := 0) rfl (by kernel_rfl) (pureVal_ok rfl) ((List.Sublist.refl _)) rfl rfl rfl ?_
      refine ExD.take (i := 1) rfl (by kernel_rfl) (pureVal_ok rfl) ((List.Sublist.refl _)) rfl rfl rfl ?_
      refine ExD.take (i := 2) rfl (by kernel_rfl) (fr_indexAddrF (Reads.old hs) (eI_len .i64) rfl rfl rfl rfl rfl rfl (by omega)) ((List.Sublist.refl _)) rfl rfl rfl ?_
      refine ExD.take (i := 3) rfl (by kernel_rfl) (fr_load rfl rfl rfl rfl (by first | exact cellN (Reads.old hs) (eI_len .i64) 0 0 rfl (by omega) rfl | exact cellF (Reads.old hs) (eI_len .i64) 0 0 rfl (by omega) rfl)) ((List.Sublist.refl _)) rfl rfl rfl ?_
      refine ExD.take (i := 4) rfl (by kernel_rfl) (pureVal_ok rfl) ((List.Sublist.refl _)) rfl rfl rfl ?_
      refine ExD.take (i := 5) rfl (by kernel_rfl) (pureVal_ok rfl) ((List.Sublist.refl _)) rfl rfl rfl ?_
      refine ExD.take (i := 6) rfl (by kernel_rfl) (fr_indexAddrF (Reads.old ht) (eI_len .i64) rfl rfl rfl rfl rfl rfl (by omega)) ((List.Sublist.refl _)) rfl rfl rfl ?_
      refine ExD.take (i := 7) rfl (by kernel_rfl) (fr_load rfl rfl rfl rfl (by first | exact cellN (Reads.old ht) (eI_len .i64) 0 0 rfl (by omega) rfl | exact cellF (Reads.old ht) (eI_len .i64) 0 0 rfl (by omega) rfl)) ((List.Sublist.refl _)) rfl rfl rfl ?_
      refine ExD.cmp_neq (i := 8) rfl (by kernel_rfl) rfl rfl rfl ((List.Sublist.refl _)) rfl rfl rfl (fun h3 => ?_) (fun h3 => ?_)
      · refine ExD.done (by kernel_rfl) ?_
        refine Ex.cond_t rfl ?_
        refine Ex.regSeq (ExL.pures 1 rfl ?_)
        refine ExL.nil ?_
        refine Ex.ret ?_
        refine RetQ.mk () rfl (.tmp rfl .nil) (tB (by first | exact eq_len (by omega) | exact eq_no k (by assumption) | exact eq_yes (k := k) (by omega) (by omega) hall)) [] (rfl) rfl (trivial)
      · refine ExD.done (by kernel_rfl) ?_
        refine Ex.cond_f rfl ?_
        refine Ex.skip ?_
        refine Ex.region (ExL.pures 1 rfl ?_)
        refine ExL.free (by first | exact fr_add64 rfl rfl rfl (by omega) | exact fr_add rfl rfl rfl) rfl rfl rfl ?_
        refine ExL.pures 1 rfl ?_
        refine ExL.nil ?_
        refine Hand.mk (k + 1) 0 [] ⟨rfl, trivial⟩ ⟨rfl, rfl, trivial⟩ (rfl) rfl (⟨by omega, all_snoc hall (by first | assumption | omega)⟩) (by omega)
    · refine ExL.nil ?_
      refine Ex.cond_f rfl ?_
      refine Ex.exit ?_
      refine Ex.regSeq (ExL.pures 1 rfl ?_)
      refine ExL.nil ?_
      refine Ex.ret ?_
      refine RetQ.mk () rfl (.tmp rfl .nil) (tB (by first | exact eq_len (by omega) | exact eq_no k (by assumption) | exact eq_yes (k := k) (by omega) (by omega) hall)) [] (rfl) rfl (trivial)
theorem e_35 : Enters Try.prog 35 := Enters.of Try.func35 rfl
theorem c_toInt64S (s : List Int) (As : Option Addr) (cs : Nat) (hls : s.length ≤ 1048576) : Ret Try.prog 35 [.slice As s.length cs] (fun w => Rd w As (s.flatMap (eI .i64))) (fun x : Nat => .slice (some ⟨x, 0, none⟩) s.length s.length) (fun x => [.row (.slice (some ⟨x, 0, none⟩) s.length s.length) 2 1 s.length (s.flatMap (eI .i64))]) (fun x => True) := by
  refine Ret.of e_35 Try.func35 rfl Try.ntmps35 rfl rfl (fun w hpre => ?_)
  have hs := hpre.base
  refine Ex.regSeq (ExL.pures 1 rfl ?_)
  refine ExL.nil ?_
  refine Ex.regSeq (ExL.pures 2 rfl ?_)
  refine ExL.op rfl (op_makeSlice (sz := 8) rfl rfl rfl rfl rfl rfl rfl rfl (⟨by omega, by unfold maxLen; omega⟩) rfl rfl (fun r1 => ?_))
  refine ExL.pures 1 rfl ?_
  refine ExL.nil ?_
  refine Ex.seq ?_
  refine Ex.regSeq (ExL.pures 1 rfl ?_)
  refine ExL.nil ?_
  refine Ex.block ?_
  refine Ex.loopK (X := Nat) (fun k => [(4, .int .i64 k)]) (fun k => [.row (.slice (some ⟨r1, 0, none⟩) s.length s.length) 2 1 s.length ((Sx.part 0 s k).flatMap (eI .i64))]) (fun k => k ≤ s.length) (fun k => s.length - k) 0 [(0, _), (2, _), (3, _)] [] 1 [0] ⟨rfl, trivial⟩ ⟨rfl, rfl, rfl, trivial⟩ (pkR (zpart (eI_len .i64) 0 rfl s rfl)) rfl (Nat.zero_le _) (fun k hI => ?_)
  have hI : k ≤ s.length := hI
  refine Ex.seq ?_
  refine Ex.regSeq (ExL.pures 3 rfl ?_)
  refine ExL.lss rfl rfl rfl rfl rfl rfl (fun h2 => ?_) (fun h2 => ?_)
  · refine ExL.nil ?_
    refine Ex.cond_t rfl ?_
    refine Ex.skip ?_
    refine Ex.seq ?_
    refine Ex.block ?_
    refine Ex.region (ExL.pures 4 rfl ?_)
    refine ExL.free (fr_indexAddrF (Reads.old hs) (eI_len .i64) rfl rfl rfl rfl rfl rfl (by omega)) rfl rfl rfl ?_
    refine ExL.free (fr_load rfl rfl rfl rfl (by first | exact cellN (Reads.old hs) (eI_len .i64) 0 0 rfl (by omega) rfl | exact cellF (Reads.old hs) (eI_len .i64) 0 0 rfl (by omega) rfl)) rfl rfl rfl ?_
    refine ExL.free (fr_indexAddr (sz := 1) rfl rfl rfl rfl rfl rfl (by omega)) rfl rfl rfl ?_
    refine ExL.op rfl (op_storeRow (i := 0) rfl rfl rfl rfl rfl rfl rfl rfl (room (eI_len .i64) (k := k) (part_lt (by omega) (by omega)) (by first | rfl | simp) rfl) (List.cons_ne_nil _ _) rfl ?_)
    refine ExL.nil ?_
    refine Ex.region (ExL.pures 1 rfl ?_)
    refine ExL.free (by first | exact fr_add64 rfl rfl rfl (by omega) | exact fr_add rfl rfl rfl) rfl rfl rfl ?_
    refine ExL.pures 1 rfl ?_
    refine ExL.nil ?_
    refine Hand.mk (k + 1) 1 [0] ⟨rfl, trivial⟩ ⟨rfl, rfl, rfl, trivial⟩ (pkR (part_put (eI_len .i64) 0 0 s k (by omega) (by simp) rfl)) rfl (by omega) (by omega)
  · refine ExL.nil ?_
    refine Ex.cond_f rfl ?_
    refine Ex.exit ?_
    refine Ex.regSeq (ExL.pures 2 rfl ?_)
    refine ExL.nil ?_
    refine Ex.ret ?_
    refine RetQ.mk _ rfl (.tmp rfl .nil) (rfl) [0] (pkR (by obtain rfl : k = s.length := (by omega); rw [part_all])) rfl (trivial)
theorem e_41 : Enters Try.prog 41 := Enters.of Try.func41 rfl
theorem c_markPhotoS (n : Nat) (A : Option Addr) (c : Nat) (hn : n ≤ maxLen) (k : Int) : Ret Try.prog 41 [.slice A n c, .int .i64 k] (fun w => True) (fun x : Unit => .int .i64 k) (fun x => []) (fun x => True) := by
  refine Ret.of e_41 Try.func41 rfl Try.ntmps41 rfl rfl (fun w hpre => ?_)
  have hm0 : maxLen = 9223372036854775807 := rfl
  refine Ex.regSeq (ExL.pures 1 rfl ?_)
  refine ExL.nil ?_
  refine Ex.seq ?_
  refine Ex.regSeq (ExL.pures 1 rfl ?_)
  refine ExL.nil ?_
  refine Ex.block ?_
  refine Ex.loopK (X := Nat) (fun i => [(5, .int .i64 i)]) (fun i => []) (fun i => i ≤ n) (fun i => n - i) 0 [(0, _), (1, _), (4, _)] [] 0 [] ⟨rfl, trivial⟩ ⟨rfl, rfl, rfl, trivial⟩ (rfl) rfl (Nat.zero_le _) (fun i hI => ?_)
  have hI : i ≤ n := hI
  refine Ex.seq ?_
  refine Ex.regSeq (ExL.pures 3 rfl ?_)
  refine ExL.lss rfl rfl rfl rfl rfl rfl (fun h1 => ?_) (fun h1 => ?_)
  · refine ExL.nil ?_
    refine Ex.cond_t rfl ?_
    refine Ex.skip ?_
    refine Ex.seq ?_
    refine Ex.block ?_
    refine Ex.skip ?_
    refine Ex.region (ExL.pures 1 rfl ?_)
    refine ExL.free (by first | exact fr_add64 rfl rfl rfl (by omega) | exact fr_add rfl rfl rfl) rfl rfl rfl ?_
    refine ExL.pures 1 rfl ?_
    refine ExL.nil ?_
    refine Hand.mk (i + 1) 0 [] ⟨rfl, trivial⟩ ⟨rfl, rfl, rfl, trivial⟩ (rfl) rfl (by omega) (by omega)
  · refine ExL.nil ?_
    refine Ex.cond_f rfl ?_
    refine Ex.exit ?_
    refine Ex.regSeq (ExL.pures 2 rfl ?_)
    refine ExL.nil ?_
    refine Ex.ret ?_
    refine RetQ.mk () rfl (.tmp rfl .nil) (rfl) [] (rfl) rfl (trivial)
theorem e_44 : Enters Try.prog 44 := Enters.of Try.func44 rfl
theorem c_heldPhotoS (n : Nat) (A : Option Addr) (c : Nat) (hn : n ≤ maxLen) (k : Int) : Ret Try.prog 44 [.slice A n c, .int .i64 k] (fun w => True) (fun x : Unit => .int .i64 k) (fun x => []) (fun x => True) := by
  refine Ret.of e_44 Try.func44 rfl Try.ntmps44 rfl rfl (fun w hpre => ?_)
  have hm0 : maxLen = 9223372036854775807 := rfl
  refine Ex.regSeq (ExL.pures 1 rfl ?_)
  refine ExL.nil ?_
  refine Ex.seq ?_
  refine Ex.regSeq (ExL.pures 1 rfl ?_)
  refine ExL.nil ?_
  refine Ex.block ?_
  refine Ex.loopK (X := Nat) (fun i => [(5, .int .i64 i)]) (fun i => []) (fun i => i ≤ n) (fun i => n - i) 0 [(0, _), (1, _), (4, _)] [] 0 [] ⟨rfl, trivial⟩ ⟨rfl, rfl, rfl, trivial⟩ (rfl) rfl (Nat.zero_le _) (fun i hI => ?_)
  have hI : i ≤ n := hI
  refine Ex.seq ?_
  refine Ex.regSeq (ExL.pures 3 rfl ?_)
  refine ExL.lss rfl rfl rfl rfl rfl rfl (fun h1 => ?_) (fun h1 => ?_)
  · refine ExL.nil ?_
    refine Ex.cond_t rfl ?_
    refine Ex.skip ?_
    refine Ex.seq ?_
    refine Ex.block ?_
    refine Ex.skip ?_
    refine Ex.region (ExL.pures 1 rfl ?_)
    refine ExL.free (by first | exact fr_add64 rfl rfl rfl (by omega) | exact fr_add rfl rfl rfl) rfl rfl rfl ?_
    refine ExL.pures 1 rfl ?_
    refine ExL.nil ?_
    refine Hand.mk (i + 1) 0 [] ⟨rfl, trivial⟩ ⟨rfl, rfl, rfl, trivial⟩ (rfl) rfl (by omega) (by omega)
  · refine ExL.nil ?_
    refine Ex.cond_f rfl ?_
    refine Ex.exit ?_
    refine Ex.regSeq (ExL.pures 2 rfl ?_)
    refine ExL.nil ?_
    refine Ex.ret ?_
    refine RetQ.mk () rfl (.tmp rfl .nil) (rfl) [] (rfl) rfl (trivial)
end Go.Proofs.Ytplljnddhkleaaa
