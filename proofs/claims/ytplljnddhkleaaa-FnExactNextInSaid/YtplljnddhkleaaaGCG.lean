/- What these functions of the program hand back, each proved by walking its operations. -/
import Derived.Test.YtplljnddhkleaaaProg
import Derived.Test.YtplljnddhkleaaaFw
import Derived.Test.YtplljnddhkleaaaM48
import Derived.Test.YtplljnddhkleaaaGPA
set_option linter.unusedVariables false
set_option linter.unusedSimpArgs false
set_option maxRecDepth 4000
namespace Go.Proofs.Ytplljnddhkleaaa
open Go Go.Sx Go.RowKit Go.W Go.Proofs
attribute [local irreducible] Ex ExL ExD Op1 Free RetQ MutQ Reads CellO SegO LoadsAs
theorem e_129 : Enters Try.prog 129 := Enters.of Try.func129 rfl
theorem c_GrowU (n : Nat) (hn : n ≤ 1000000) : Ret Try.prog 129 [.slice none 0 0, .int .i64 n] (fun w => True) (fun x : Option Addr × Nat => .slice x.1 0 x.2) (fun x => [.row (.slice x.1 0 x.2) 5 1 0 []]) (fun x => True) := by
  refine Ret.of e_129 Try.func129 rfl Try.ntmps129 rfl rfl (fun w hpre => ?_)
  have hm0 : maxLen = 9223372036854775807 := rfl
  refine Ex.regSeq (ExL.pures 1 rfl ?_)
  refine ExL.nil ?_
  refine Ex.seq ?_
  refine Ex.regSeq (ExL.pures 1 rfl ?_)
  refine ExL.free (fr_lss_f rfl rfl rfl (by omega)) rfl rfl rfl ?_
  refine ExL.nil ?_
  refine Ex.cond_f rfl ?_
  refine Ex.skip ?_
  refine Ex.seq ?_
  refine Ex.regSeq (ExL.pures 2 rfl ?_)
  refine ExL.free (fr_cap rfl rfl rfl) rfl rfl rfl ?_
  refine ExL.pures 2 rfl ?_
  refine ExL.free (by first | exact fr_sub64 rfl rfl rfl (by omega) | exact fr_sub rfl rfl rfl) rfl rfl rfl ?_
  refine ExL.free (Free.val (n : Int) (fr_sub64 rfl rfl rfl (by omega)) (by omega)) rfl rfl rfl ?_
  refine ExL.pures 1 rfl ?_
  refine ExL.nil ?_
  refine Ex.regSeq (ExL.pures 1 rfl ?_)
  refine ExL.gtr rfl rfl rfl rfl rfl rfl (fun h1 => ?_) (fun h1 => ?_)
  · refine ExL.nil ?_
    refine Ex.cond_t rfl ?_
    refine Ex.region (ExL.pures 2 rfl ?_)
    refine ExL.free (fr_cap rfl rfl rfl) rfl rfl rfl ?_
    refine ExL.free (fr_slice_h (sz := 1) 0 rfl rfl rfl rfl rfl rfl (by omega)) rfl rfl rfl ?_
    refine ExL.pures 1 rfl ?_
    refine ExL.op rfl (op_appendZ (sz := 1) (bytes := 1) rfl rfl rfl rfl rfl rfl rfl (by omega) (by constructor <;> first | omega | (unfold maxLen; omega)) rfl rfl (fun r2 cr2 => ?_))
    refine ExL.pures 2 rfl ?_
    refine ExL.free (fr_slice_h (sz := 1) 0 rfl rfl rfl rfl rfl rfl (by omega)) rfl rfl rfl ?_
    refine ExL.pures 1 rfl ?_
    refine ExL.nil ?_
    refine Ex.regSeq (ExL.pures 2 rfl ?_)
    refine ExL.nil ?_
    refine Ex.ret ?_
    refine RetQ.mk ((some ⟨r2, 0, none⟩), cr2) rfl (.tmp rfl .nil) (rfl) [0] (rfl) rfl (trivial)
  · refine ExL.nil ?_
    refine Ex.cond_f rfl ?_
    refine Ex.skip ?_
    refine Ex.regSeq (ExL.pures 2 rfl ?_)
    refine ExL.nil ?_
    refine Ex.nilRow 5 1 ?_
    refine Ex.ret ?_
    refine RetQ.mk (none, 0) rfl (.tmp rfl .nil) (rfl) [0] (rfl) rfl (trivial)
theorem e_128 : Enters Try.prog 128 := Enters.of Try.func128 rfl
theorem c_GrowM (n : Nat) (hn : n ≤ 1000000) : Ret Try.prog 128 [.slice none 0 0, .int .i64 n] (fun w => True) (fun x : Option Addr × Nat => .slice x.1 0 x.2) (fun x => [.row (.slice x.1 0 x.2) 31 2 0 []]) (fun x => True) := by
  refine Ret.of e_128 Try.func128 rfl Try.ntmps128 rfl rfl (fun w hpre => ?_)
  have hm0 : maxLen = 9223372036854775807 := rfl
  refine Ex.regSeq (ExL.pures 1 rfl ?_)
  refine ExL.nil ?_
  refine Ex.seq ?_
  refine Ex.regSeq (ExL.pures 1 rfl ?_)
  refine ExL.free (fr_lss_f rfl rfl rfl (by omega)) rfl rfl rfl ?_
  refine ExL.nil ?_
  refine Ex.cond_f rfl ?_
  refine Ex.skip ?_
  refine Ex.seq ?_
  refine Ex.regSeq (ExL.pures 2 rfl ?_)
  refine ExL.free (fr_cap rfl rfl rfl) rfl rfl rfl ?_
  refine ExL.pures 2 rfl ?_
  refine ExL.free (by first | exact fr_sub64 rfl rfl rfl (by omega) | exact fr_sub rfl rfl rfl) rfl rfl rfl ?_
  refine ExL.free (Free.val (n : Int) (fr_sub64 rfl rfl rfl (by omega)) (by omega)) rfl rfl rfl ?_
  refine ExL.pures 1 rfl ?_
  refine ExL.nil ?_
  refine Ex.regSeq (ExL.pures 1 rfl ?_)
  refine ExL.gtr rfl rfl rfl rfl rfl rfl (fun h1 => ?_) (fun h1 => ?_)
  · refine ExL.nil ?_
    refine Ex.cond_t rfl ?_
    refine Ex.region (ExL.pures 2 rfl ?_)
    refine ExL.free (fr_cap rfl rfl rfl) rfl rfl rfl ?_
    refine ExL.free (fr_slice_h (sz := 2) 0 rfl rfl rfl rfl rfl rfl (by omega)) rfl rfl rfl ?_
    refine ExL.pures 1 rfl ?_
    refine ExL.op rfl (op_appendZ (sz := 2) (bytes := 16) rfl rfl rfl rfl rfl rfl rfl (by omega) (by constructor <;> first | omega | (unfold maxLen; omega)) rfl rfl (fun r2 cr2 => ?_))
    refine ExL.pures 2 rfl ?_
    refine ExL.free (fr_slice_h (sz := 2) 0 rfl rfl rfl rfl rfl rfl (by omega)) rfl rfl rfl ?_
    refine ExL.pures 1 rfl ?_
    refine ExL.nil ?_
    refine Ex.regSeq (ExL.pures 2 rfl ?_)
    refine ExL.nil ?_
    refine Ex.ret ?_
    refine RetQ.mk ((some ⟨r2, 0, none⟩), cr2) rfl (.tmp rfl .nil) (rfl) [0] (rfl) rfl (trivial)
  · refine ExL.nil ?_
    refine Ex.cond_f rfl ?_
    refine Ex.skip ?_
    refine Ex.regSeq (ExL.pures 2 rfl ?_)
    refine ExL.nil ?_
    refine Ex.nilRow 31 2 ?_
    refine Ex.ret ?_
    refine RetQ.mk (none, 0) rfl (.tmp rfl .nil) (rfl) [0] (rfl) rfl (trivial)
theorem e_109 : Enters Try.prog 109 := Enters.of Try.func109 rfl
theorem c_ConcatU (K : List (VX Int)) (AK : Option Addr) (cK : Nat) (hT : (catX K K.length).length ≤ 1000000) (hL : K.length ≤ 1000000) (hN : ∀ k, k < K.length → (K.getD k zX).A = none → (K.getD k zX).xs.length = 0 ∧ (K.getD k zX).c = 0) : Ret Try.prog 109 [.slice AK K.length cK] (fun w => Rd w AK (K.flatMap encX) ∧ ∀ k, k < K.length → Rd w (K.getD k zX).A ((K.getD k zX).xs.flatMap (eI .u8))) (fun x : Option Addr × Nat => .slice x.1 (catX K K.length).length x.2) (fun x => [.row (.slice x.1 (catX K K.length).length x.2) 5 1 (catX K K.length).length ((catX K K.length).flatMap (eI .u8))]) (fun x => True) := by
  refine Ret.of e_109 Try.func109 rfl Try.ntmps109 rfl rfl (fun w hpre => ?_)
  have hKr := hpre.1.base
  have hKi := fun k hk => (hpre.2 k hk).base
  have hm0 : maxLen = 9223372036854775807 := rfl
  refine Ex.regSeq (ExL.pures 1 rfl ?_)
  refine ExL.nil ?_
  refine Ex.regSeq (ExL.pures 1 rfl ?_)
  refine ExL.nil ?_
  refine Ex.seq ?_
  refine Ex.regSeq (ExL.pures 3 rfl ?_)
  refine ExL.nil ?_
  refine Ex.block ?_
  refine Ex.loopK (X := Nat) (fun k => [(3, .int .i64 (catX K k).length), (11, .int .i64 k)]) (fun k => []) (fun k => k ≤ K.length) (fun k => K.length - k) 0 [(0, _), (2, _), (9, _), (10, _)] [] 0 [] ⟨rfl, rfl, trivial⟩ ⟨rfl, rfl, rfl, rfl, trivial⟩ (rfl) rfl (Nat.zero_le _) (fun k hI => ?_)
  have hI : k ≤ K.length := hI
  have hcm := catX_mono hI
  refine Ex.regSeq (ExL.pures 0 rfl ?_)
  refine ExL.lss rfl rfl rfl rfl rfl rfl (fun h1 => ?_) (fun h1 => ?_)
  · refine ExL.nil ?_
    refine Ex.seq ?_
    refine Ex.cond_t rfl ?_
    refine Ex.skip ?_
    refine Ex.seq ?_
    refine Ex.block ?_
    have hkk : k < K.length := by omega
    have hcs := catX_sl hkk
    have hcm1 := catX_mono (K := K) (k := k + 1) (by omega)
    refine Ex.regSeq (ExL.pures 0 rfl ?_)
    refine ExL.free (fr_indexAddrF (Reads.old hKr) encX_len rfl rfl rfl rfl rfl rfl (by omega)) rfl rfl rfl ?_
    refine ExL.free (fr_load rfl rfl rfl rfl (by first | exact cellN (Reads.old hKr) encX_len zX 0 rfl (by omega) rfl | exact cellF (Reads.old hKr) encX_len zX 0 rfl (by omega) rfl)) rfl rfl rfl ?_
    refine ExL.pures 1 rfl ?_
    refine ExL.nil ?_
    refine Ex.regSeq (ExL.pures 3 rfl ?_)
    refine ExL.free (by first | exact fr_add64 rfl rfl rfl (by omega) | exact fr_add rfl rfl rfl) rfl rfl rfl ?_
    refine ExL.pures 1 rfl ?_
    refine ExL.nil ?_
    refine Ex.regSeq (ExL.pures 1 rfl ?_)
    refine ExL.free (fr_lss_f rfl rfl rfl (by omega)) rfl rfl rfl ?_
    refine ExL.nil ?_
    refine Ex.cond_f rfl ?_
    refine Ex.skip ?_
    refine Ex.region (ExL.pures 0 rfl ?_)
    refine ExL.free (by first | exact fr_add64 rfl rfl rfl (by omega) | exact fr_add rfl rfl rfl) rfl rfl rfl ?_
    refine ExL.pures 1 rfl ?_
    refine ExL.nil ?_
    refine Hand.mk (k + 1) 0 [] ⟨agI (by rw [hcs]; omega), rfl, trivial⟩ ⟨rfl, rfl, rfl, rfl, trivial⟩ (rfl) rfl (by omega) (by omega)
  · refine ExL.nil ?_
    refine Ex.seq ?_
    refine Ex.cond_f rfl ?_
    refine Ex.exit ?_
    obtain rfl : k = K.length := (by omega)
    refine Ex.regSeq (ExL.pures 1 rfl ?_)
    refine ExL.op rfl (op_ret rfl rfl rfl (c_GrowU (catX K K.length).length (by omega)) (fun _ _ => trivial) rfl rfl (fun x2 hx2 => ?_))
    refine ExL.pures 1 rfl ?_
    refine ExL.nil ?_
    refine Ex.seq ?_
    refine Ex.regSeq (ExL.pures 3 rfl ?_)
    refine ExL.nil ?_
    refine Ex.block ?_
    refine Ex.loopA (fun k A c => [(6, .slice A (catX K k).length c), (27, .int .i64 k)]) (fun k A c => [.row (.slice A (catX K k).length c) 5 1 (catX K k).length ((catX K k).flatMap (eI .u8))]) (fun k => k ≤ K.length) (fun k => K.length - k) 0 (x2.1) (x2.2) [(2, _), (25, _), (26, _)] [] 1 [0] ⟨rfl, rfl, trivial⟩ ⟨rfl, rfl, rfl, trivial⟩ (by first | rfl | (rw [catX_0]; rfl)) rfl (Nat.zero_le _) (fun k A c hI => ?_)
    have hI : k ≤ K.length := hI
    have hcm := catX_mono hI
    refine Ex.regSeq (ExL.pures 0 rfl ?_)
    refine ExL.lss rfl rfl rfl rfl rfl rfl (fun h3 => ?_) (fun h3 => ?_)
    · refine ExL.nil ?_
      refine Ex.seq ?_
      refine Ex.cond_t rfl ?_
      refine Ex.skip ?_
      refine Ex.seq ?_
      refine Ex.block ?_
      have hkk : k < K.length := by omega
      have hcs := catX_sl hkk
      have hcm1 := catX_mono (K := K) (k := k + 1) (by omega)
      refine Ex.regSeq (ExL.pures 0 rfl ?_)
      refine ExL.free (fr_indexAddrF (Reads.old hKr) encX_len rfl rfl rfl rfl rfl rfl (by omega)) rfl rfl rfl ?_
      refine ExL.free (fr_load rfl rfl rfl rfl (by first | exact cellN (Reads.old hKr) encX_len zX 0 rfl (by omega) rfl | exact cellF (Reads.old hKr) encX_len zX 0 rfl (by omega) rfl)) rfl rfl rfl ?_
      refine ExL.pures 1 rfl ?_
      refine ExL.nil ?_
      refine Ex.region (ExL.pures 2 rfl ?_)
      refine ExL.op rfl (op_append (sz := 1) (bytes := 1) (i := 0) rfl rfl rfl rfl (Reads.old (hKi k (by omega))) (flat_len (eI_len .u8) _) (fun e => hN k (by omega) e) (all_flat (fun _ => rfl) _) rfl rfl rfl (by constructor <;> first | omega | (unfold maxLen; omega)) rfl rfl (fun A4 cA4 => ?_))
      refine ExL.pures 1 rfl ?_
      refine ExL.nil ?_
      refine Ex.region (ExL.pures 0 rfl ?_)
      refine ExL.free (by first | exact fr_add64 rfl rfl rfl (by omega) | exact fr_add rfl rfl rfl) rfl rfl rfl ?_
      refine ExL.pures 1 rfl ?_
      refine ExL.nil ?_
      refine HandA.of (k + 1) (A4) (cA4) 1 [0] ⟨(by rw [hcs]; rfl), rfl, trivial⟩ ⟨rfl, rfl, rfl, trivial⟩ (by rw [hcs, catX_s hkk, List.flatMap_append]; rfl) rfl (by omega) (by omega)
    · refine ExL.nil ?_
      refine Ex.seq ?_
      refine Ex.cond_f rfl ?_
      refine Ex.exit ?_
      obtain rfl : k = K.length := (by omega)
      refine Ex.regSeq (ExL.pures 2 rfl ?_)
      refine ExL.nil ?_
      refine Ex.ret ?_
      refine RetQ.mk (A, c) rfl (.tmp rfl .nil) (rfl) [0] (rfl) rfl (trivial)
theorem e_108 : Enters Try.prog 108 := Enters.of Try.func108 rfl
theorem c_ConcatM (K : List (VX VMk)) (AK : Option Addr) (cK : Nat) (hT : (catX K K.length).length ≤ 1000000) (hL : K.length ≤ 1000000) (hN : ∀ k, k < K.length → (K.getD k zX).A = none → (K.getD k zX).xs.length = 0 ∧ (K.getD k zX).c = 0) : Ret Try.prog 108 [.slice AK K.length cK] (fun w => Rd w AK (K.flatMap encX) ∧ ∀ k, k < K.length → Rd w (K.getD k zX).A ((K.getD k zX).xs.flatMap encMk)) (fun x : Option Addr × Nat => .slice x.1 (catX K K.length).length x.2) (fun x => [.row (.slice x.1 (catX K K.length).length x.2) 31 2 (catX K K.length).length ((catX K K.length).flatMap encMk)]) (fun x => True) := by
  refine Ret.of e_108 Try.func108 rfl Try.ntmps108 rfl rfl (fun w hpre => ?_)
  have hKr := hpre.1.base
  have hKi := fun k hk => (hpre.2 k hk).base
  have hm0 : maxLen = 9223372036854775807 := rfl
  refine Ex.regSeq (ExL.pures 1 rfl ?_)
  refine ExL.nil ?_
  refine Ex.regSeq (ExL.pures 1 rfl ?_)
  refine ExL.nil ?_
  refine Ex.seq ?_
  refine Ex.regSeq (ExL.pures 3 rfl ?_)
  refine ExL.nil ?_
  refine Ex.block ?_
  refine Ex.loopK (X := Nat) (fun k => [(3, .int .i64 (catX K k).length), (11, .int .i64 k)]) (fun k => []) (fun k => k ≤ K.length) (fun k => K.length - k) 0 [(0, _), (2, _), (9, _), (10, _)] [] 0 [] ⟨rfl, rfl, trivial⟩ ⟨rfl, rfl, rfl, rfl, trivial⟩ (rfl) rfl (Nat.zero_le _) (fun k hI => ?_)
  have hI : k ≤ K.length := hI
  have hcm := catX_mono hI
  refine Ex.regSeq (ExL.pures 0 rfl ?_)
  refine ExL.lss rfl rfl rfl rfl rfl rfl (fun h1 => ?_) (fun h1 => ?_)
  · refine ExL.nil ?_
    refine Ex.seq ?_
    refine Ex.cond_t rfl ?_
    refine Ex.skip ?_
    refine Ex.seq ?_
    refine Ex.block ?_
    have hkk : k < K.length := by omega
    have hcs := catX_sl hkk
    have hcm1 := catX_mono (K := K) (k := k + 1) (by omega)
    refine Ex.regSeq (ExL.pures 0 rfl ?_)
    refine ExL.free (fr_indexAddrF (Reads.old hKr) encX_len rfl rfl rfl rfl rfl rfl (by omega)) rfl rfl rfl ?_
    refine ExL.free (fr_load rfl rfl rfl rfl (by first | exact cellN (Reads.old hKr) encX_len zX 0 rfl (by omega) rfl | exact cellF (Reads.old hKr) encX_len zX 0 rfl (by omega) rfl)) rfl rfl rfl ?_
    refine ExL.pures 1 rfl ?_
    refine ExL.nil ?_
    refine Ex.regSeq (ExL.pures 3 rfl ?_)
    refine ExL.free (by first | exact fr_add64 rfl rfl rfl (by omega) | exact fr_add rfl rfl rfl) rfl rfl rfl ?_
    refine ExL.pures 1 rfl ?_
    refine ExL.nil ?_
    refine Ex.regSeq (ExL.pures 1 rfl ?_)
    refine ExL.free (fr_lss_f rfl rfl rfl (by omega)) rfl rfl rfl ?_
    refine ExL.nil ?_
    refine Ex.cond_f rfl ?_
    refine Ex.skip ?_
    refine Ex.region (ExL.pures 0 rfl ?_)
    refine ExL.free (by first | exact fr_add64 rfl rfl rfl (by omega) | exact fr_add rfl rfl rfl) rfl rfl rfl ?_
    refine ExL.pures 1 rfl ?_
    refine ExL.nil ?_
    refine Hand.mk (k + 1) 0 [] ⟨agI (by rw [hcs]; omega), rfl, trivial⟩ ⟨rfl, rfl, rfl, rfl, trivial⟩ (rfl) rfl (by omega) (by omega)
  · refine ExL.nil ?_
    refine Ex.seq ?_
    refine Ex.cond_f rfl ?_
    refine Ex.exit ?_
    obtain rfl : k = K.length := (by omega)
    refine Ex.regSeq (ExL.pures 1 rfl ?_)
    refine ExL.op rfl (op_ret rfl rfl rfl (c_GrowM (catX K K.length).length (by omega)) (fun _ _ => trivial) rfl rfl (fun x2 hx2 => ?_))
    refine ExL.pures 1 rfl ?_
    refine ExL.nil ?_
    refine Ex.seq ?_
    refine Ex.regSeq (ExL.pures 3 rfl ?_)
    refine ExL.nil ?_
    refine Ex.block ?_
    refine Ex.loopA (fun k A c => [(6, .slice A (catX K k).length c), (27, .int .i64 k)]) (fun k A c => [.row (.slice A (catX K k).length c) 31 2 (catX K k).length ((catX K k).flatMap encMk)]) (fun k => k ≤ K.length) (fun k => K.length - k) 0 (x2.1) (x2.2) [(2, _), (25, _), (26, _)] [] 1 [0] ⟨rfl, rfl, trivial⟩ ⟨rfl, rfl, rfl, trivial⟩ (by first | rfl | (rw [catX_0]; rfl)) rfl (Nat.zero_le _) (fun k A c hI => ?_)
    have hI : k ≤ K.length := hI
    have hcm := catX_mono hI
    refine Ex.regSeq (ExL.pures 0 rfl ?_)
    refine ExL.lss rfl rfl rfl rfl rfl rfl (fun h3 => ?_) (fun h3 => ?_)
    · refine ExL.nil ?_
      refine Ex.seq ?_
      refine Ex.cond_t rfl ?_
      refine Ex.skip ?_
      refine Ex.seq ?_
      refine Ex.block ?_
      have hkk : k < K.length := by omega
      have hcs := catX_sl hkk
      have hcm1 := catX_mono (K := K) (k := k + 1) (by omega)
      refine Ex.regSeq (ExL.pures 0 rfl ?_)
      refine ExL.free (fr_indexAddrF (Reads.old hKr) encX_len rfl rfl rfl rfl rfl rfl (by omega)) rfl rfl rfl ?_
      refine ExL.free (fr_load rfl rfl rfl rfl (by first | exact cellN (Reads.old hKr) encX_len zX 0 rfl (by omega) rfl | exact cellF (Reads.old hKr) encX_len zX 0 rfl (by omega) rfl)) rfl rfl rfl ?_
      refine ExL.pures 1 rfl ?_
      refine ExL.nil ?_
      refine Ex.region (ExL.pures 2 rfl ?_)
      refine ExL.op rfl (op_append (sz := 2) (bytes := 16) (i := 0) rfl rfl rfl rfl (Reads.old (hKi k (by omega))) (flat_len encMk_len _) (fun e => hN k (by omega) e) (all_flat (fun _ => rfl) _) rfl rfl rfl (by constructor <;> first | omega | (unfold maxLen; omega)) rfl rfl (fun A4 cA4 => ?_))
      refine ExL.pures 1 rfl ?_
      refine ExL.nil ?_
      refine Ex.region (ExL.pures 0 rfl ?_)
      refine ExL.free (by first | exact fr_add64 rfl rfl rfl (by omega) | exact fr_add rfl rfl rfl) rfl rfl rfl ?_
      refine ExL.pures 1 rfl ?_
      refine ExL.nil ?_
      refine HandA.of (k + 1) (A4) (cA4) 1 [0] ⟨(by rw [hcs]; rfl), rfl, trivial⟩ ⟨rfl, rfl, rfl, trivial⟩ (by rw [hcs, catX_s hkk, List.flatMap_append]; rfl) rfl (by omega) (by omega)
    · refine ExL.nil ?_
      refine Ex.seq ?_
      refine Ex.cond_f rfl ?_
      refine Ex.exit ?_
      obtain rfl : k = K.length := (by omega)
      refine Ex.regSeq (ExL.pures 2 rfl ?_)
      refine ExL.nil ?_
      refine Ex.ret ?_
      refine RetQ.mk (A, c) rfl (.tmp rfl .nil) (rfl) [0] (rfl) rfl (trivial)
end Go.Proofs.Ytplljnddhkleaaa
