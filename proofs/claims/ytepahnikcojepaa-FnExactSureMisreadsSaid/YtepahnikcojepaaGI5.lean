/- What these functions of the program hand back, each proved by walking its operations. -/
import Derived.Test.YtepahnikcojepaaProg
import Derived.Test.YtepahnikcojepaaFw
import Derived.Test.YtepahnikcojepaaGI4
import Derived.Test.YtepahnikcojepaaM20
set_option linter.unusedVariables false
set_option linter.unusedSimpArgs false
set_option maxRecDepth 4000
namespace Go.Proofs.Ytepahnikcojepaa
open Go Go.Sx Go.RowKit Go.W Go.Proofs
attribute [local irreducible] Ex ExL ExD Op1 Free RetQ MutQ Reads CellO SegO LoadsAs
theorem e_121 : Enters Try.prog 121 := Enters.of Try.func121 rfl
theorem c_cw1 (fit : Nat → Nat → Bool) (n : Nat) (hn : n ≤ 40) (K : List (VX Bool)) (hKl : K.length = n) (hCK : CanK fit n K) (b o : Nat) (As Al : Option Addr) (ns cs cl : Nat) (bb : Nat) (i k : Nat) (hik : i < k) (hk : k < n) : Ret Try.prog 121 [.int .i64 (i : Int), .int .i64 (k : Int), .pointer (some ⟨bb, 0, none⟩)] (fun w => Rd w (some ⟨bb, 0, none⟩) [.pointer (some ⟨b, 0, none⟩)] ∧ Rd w (some ⟨b, 0, none⟩) [.slice As ns cs, .slice Al n cl, .slice (some ⟨o, 0, none⟩) n n] ∧ Rd w (some ⟨o, 0, none⟩) (K.flatMap encX) ∧ ∀ k, k < K.length → Rd w (K.getD k zX).A ((K.getD k zX).xs.flatMap eB)) (fun x : Unit => .int .i64 (((k : Int) - i - 1) + 2 * brk (fit i k))) (fun x => []) (fun x => True) := by
  refine Ret.of e_121 Try.func121 rfl Try.ntmps121 rfl rfl (fun w hpre => ?_)
  have hbb := hpre.1.base
  have hd := hpre.2.1.base
  have hc := hpre.2.2.1.base
  have hcr := fun k hk => (hpre.2.2.2 k hk).base
  have hKn := hKl
  obtain ⟨hxl, hbe⟩ := canK_bool hCK (i := i) (j := k) (by omega) (by omega) (by omega)
  have hbk := brk_bd ((K.getD i zX).xs.getD k false)
  have hm0 : maxLen = 9223372036854775807 := rfl
  refine Ex.regSeq (ExL.pures 1 rfl ?_)
  refine ExL.nil ?_
  refine Ex.regSeq (ExL.pures 2 rfl ?_)
  refine ExL.free (by first | exact fr_sub64 rfl rfl rfl (by omega) | exact fr_sub rfl rfl rfl) rfl rfl rfl ?_
  refine ExL.free (by first | exact fr_sub64 rfl rfl rfl (by omega) | exact fr_sub rfl rfl rfl) rfl rfl rfl ?_
  refine ExL.free (by first | exact fr_mul64 rfl rfl rfl (by omega) | exact fr_mul rfl rfl rfl) rfl rfl rfl ?_
  refine ExL.free (fr_load rfl rfl rfl rfl (CellO.at 0 (Reads.old hbb) rfl)) rfl rfl rfl ?_
  refine ExL.pures 2 rfl ?_
  refine ExL.free (fr_load rfl rfl rfl rfl (CellO.at 2 (Reads.old hd) rfl)) rfl rfl rfl ?_
  refine ExL.pures 1 rfl ?_
  refine ExL.free (fr_indexAddrE (sz := 1) hKl (Reads.old hc) encX_len rfl rfl rfl rfl rfl rfl (by omega)) rfl rfl rfl ?_
  refine ExL.free (fr_load rfl rfl rfl rfl (cellJ (i := ↑i) (i) (Reads.old hc) encX_len zX 0 rfl (by omega) (by omega) rfl)) rfl rfl rfl ?_
  refine ExL.pures 1 rfl ?_
  refine ExL.free (fr_indexAddrF (Reads.old (hcr i (by omega))) eB_len rfl rfl rfl rfl rfl rfl (by omega)) rfl rfl rfl ?_
  refine ExL.free (fr_load rfl rfl rfl rfl (cellJ (i := ↑k) (k) (Reads.old (hcr i (by omega))) eB_len false 0 rfl (by omega) (by omega) rfl)) rfl rfl rfl ?_
  refine ExL.op rfl (op_ret rfl rfl rfl (c_oneUnless _) (fun _ _ => trivial) rfl rfl (fun x1 hx1 => ?_))
  refine ExL.free (by first | exact fr_mul64 rfl rfl rfl (by omega) | exact fr_mul rfl rfl rfl) rfl rfl rfl ?_
  refine ExL.free (by first | exact fr_add64 rfl rfl rfl (by omega) | exact fr_add rfl rfl rfl) rfl rfl rfl ?_
  refine ExL.pures 1 rfl ?_
  refine ExL.nil ?_
  refine Ex.ret ?_
  refine RetQ.mk () rfl (.tmp rfl .nil) (tI (by rw [← hbe]; omega)) [] (rfl) rfl (trivial)
theorem e_102 : Enters Try.prog 102 := Enters.of Try.func102 rfl
theorem c_costWith (fit : Nat → Nat → Bool) (n : Nat) (hn : n ≤ 40) (K : List (VX Bool)) (hKl : K.length = n) (hCK : CanK fit n K) (b o : Nat) (As Al : Option Addr) (ns cs cl : Nat) (i : Nat) (hin : i < n) : Ret Try.prog 102 [.pointer (some ⟨b, 0, none⟩), .int .i64 (i : Int)] (fun w => Rd w (some ⟨b, 0, none⟩) [.slice As ns cs, .slice Al n cl, .slice (some ⟨o, 0, none⟩) n n] ∧ Rd w (some ⟨o, 0, none⟩) (K.flatMap encX) ∧ ∀ k, k < K.length → Rd w (K.getD k zX).A ((K.getD k zX).xs.flatMap eB)) (fun x : Unit => .int .i64 (withV fit n i)) (fun x => []) (fun x => True) := by
  refine Ret.of e_102 Try.func102 rfl Try.ntmps102 rfl rfl (fun w hpre => ?_)
  have hd := hpre.1.base
  have hc := hpre.2.1.base
  have hcr := fun k hk => (hpre.2.2 k hk).base
  have hKn := hKl
  have hm0 : maxLen = 9223372036854775807 := rfl
  refine Ex.regSeq (ExL.pures 0 rfl ?_)
  refine ExL.op rfl (op_box rfl rfl rfl rfl rfl (fun b1 => ?_))
  refine ExL.pures 1 rfl ?_
  refine ExL.nil ?_
  refine Ex.regSeq (ExL.pures 0 rfl ?_)
  refine ExL.free (fr_load rfl rfl rfl rfl (CellO.blk (i := 0) rfl rfl)) rfl rfl rfl ?_
  refine ExL.pures 2 rfl ?_
  refine ExL.free (fr_load rfl rfl rfl rfl (CellO.at 1 (Reads.old hd) rfl)) rfl rfl rfl ?_
  refine ExL.pures 2 rfl ?_
  refine ExL.nil ?_
  refine Ex.regSeq (ExL.pures 0 rfl ?_)
  refine ExL.free (fr_makeFunc rfl rfl rfl) rfl rfl rfl ?_
  refine ExL.pures 1 rfl ?_
  refine ExL.nil ?_
  refine Ex.drawSeqM rfl ?_
  refine ExD.take (i := 0) rfl (by kernel_rfl) (pureVal_ok rfl) ((List.Sublist.refl _)) rfl rfl rfl ?_
  refine ExD.take (i := 2) rfl (by kernel_rfl) (pureVal_ok rfl) ((List.Sublist.refl _)) rfl rfl rfl ?_
  refine ExD.fork (i := 1) (j := 3) rfl rfl (by kernel_rfl) rfl rfl (op_makeSlice (sz := 8) rfl rfl rfl rfl rfl rfl rfl rfl (⟨by omega, by unfold maxLen; omega⟩) rfl rfl (fun r2 => ⟨(List.Sublist.cons _ (List.Sublist.refl _)), ?_⟩)) (op_makeSlice (sz := 8) rfl rfl rfl rfl rfl rfl rfl rfl (⟨by omega, by unfold maxLen; omega⟩) rfl rfl (fun r3 => ⟨(List.Sublist.cons _ (List.Sublist.refl _)), ?_⟩))
  · refine ExD.take (i := 4) rfl (by kernel_rfl) (pureVal_ok rfl) ((List.Sublist.cons _ (List.Sublist.refl _))) rfl rfl rfl ?_
    refine ExD.op (i := 3) rfl (by kernel_rfl) rfl (op_makeSlice (sz := 8) rfl rfl rfl rfl rfl rfl rfl rfl (⟨by omega, by unfold maxLen; omega⟩) rfl rfl (fun r4 => ⟨(List.Sublist.cons _ (List.Sublist.cons _ (List.Sublist.refl _))), ?_⟩))
    refine ExD.take (i := 5) rfl (by kernel_rfl) (pureVal_ok rfl) ((List.Sublist.cons _ (List.Sublist.cons _ (List.Sublist.refl _)))) rfl rfl rfl ?_
    refine ExD.done (by kernel_rfl) ?_
    refine Ex.seq ?_
    refine Ex.regSeq (ExL.pures 1 rfl ?_)
    refine ExL.nil ?_
    refine Ex.block ?_
    refine Ex.loopK (X := Nat) (fun j => [(9, .int .i64 j)]) (fun j => [.row (.slice (some ⟨r2, 0, none⟩) n n) 2 1 n ((flO fit n j).flatMap (eI .i64))]) (fun j => j ≤ i + 1) (fun j => i + 1 - j) 0 [(1, _), (4, _), (5, _), (6, _), (7, _), (8, _)] [_, _] 3 [1, 0, 2] ⟨rfl, trivial⟩ ⟨rfl, rfl, rfl, rfl, rfl, rfl, trivial⟩ (pkR (flO_zero rfl)) rfl (Nat.zero_le _) (fun j hI => ?_)
    have hI : j ≤ i + 1 := hI
    refine Ex.seq ?_
    refine Ex.regSeq (ExL.pures 2 rfl ?_)
    refine ExL.leq rfl rfl rfl rfl rfl rfl (fun h5 => ?_) (fun h5 => ?_)
    · refine ExL.nil ?_
      refine Ex.cond_t rfl ?_
      refine Ex.skip ?_
      refine Ex.seq ?_
      refine Ex.block ?_
      refine Ex.regSeq (ExL.pures 3 rfl ?_)
      refine ExL.free (by first | exact fr_mul64 rfl rfl rfl (by omega) | exact fr_mul rfl rfl rfl) rfl rfl rfl ?_
      refine ExL.free (fr_indexAddr (sz := 1) rfl rfl rfl rfl rfl rfl (by omega)) rfl rfl rfl ?_
      refine ExL.op rfl (op_storeRowF (i := 0) rfl rfl rfl rfl rfl rfl rfl rfl (room (eI_len .i64) (k := j) (by rw [flO_len (by omega)]; omega) (by simp) rfl) (List.cons_ne_nil _ _) rfl (flO_put (x := (finV fit j (fl fit j) 0)) (by omega) (by simp) (by rw [Int.mul_one]; rfl)) ?_)
      refine ExL.nil ?_
      refine Ex.regSeq (ExL.pures 2 rfl ?_)
      refine ExL.nil ?_
      refine Ex.block ?_
      refine Ex.loopK (X := Nat) (fun m => [(34, .int .i64 m)]) (fun m => [.row (.slice (some ⟨r2, 0, none⟩) n n) 2 1 n ((flR fit n j (finV fit j (fl fit j) m)).flatMap (eI .i64))]) (fun m => m ≤ j) (fun m => j - m) 0 [(1, _), (4, _), (5, _), (6, _), (7, _), (8, _), (9, _), (33, _)] [_, _] 3 [0, 1, 2] ⟨rfl, trivial⟩ ⟨rfl, rfl, rfl, rfl, rfl, rfl, rfl, rfl, trivial⟩ (rfl) rfl (Nat.zero_le _) (fun m hI => ?_)
      have hI : m ≤ j := hI
      refine Ex.regSeq (ExL.pures 0 rfl ?_)
      refine ExL.lss rfl rfl rfl rfl rfl rfl (fun h6 => ?_) (fun h6 => ?_)
      · refine ExL.nil ?_
        refine Ex.seq ?_
        refine Ex.cond_t rfl ?_
        refine Ex.skip ?_
        refine Ex.seq ?_
        refine Ex.block ?_
        refine Ex.regSeq (ExL.pures 2 rfl ?_)
        refine ExL.nil ?_
        have hfl := flR_len (fit := fit) (n := n) (i := j) (x := (finV fit j (fl fit j) m)) (by omega)
        have ha := flR_at (fit := fit) (n := n) (i := j) (x := (finV fit j (fl fit j) m))
        have hlo := flR_lo (fit := fit) (n := n) (i := j) (k := m) (x := (finV fit j (fl fit j) m)) (by omega)
        have hfb := fl_bd fit j m (by omega)
        have hxb := fin_bd (fit := fit) (i := j) (fl_bd fit j) m (by omega)
        have hbk := brk_bd (fit m j)
        refine Ex.drawM rfl ?_
        refine ExD.take (i := 0) rfl (by kernel_rfl) (pureVal_ok rfl) ((List.Sublist.refl _)) rfl rfl rfl ?_
        refine ExD.take (i := 1) rfl (by kernel_rfl) (pureVal_ok rfl) ((List.Sublist.refl _)) rfl rfl rfl ?_
        refine ExD.take (i := 2) rfl (by kernel_rfl) (pureVal_ok rfl) ((List.Sublist.refl _)) rfl rfl rfl ?_
        refine ExD.take (i := 3) rfl (by kernel_rfl) (pureVal_ok rfl) ((List.Sublist.refl _)) rfl rfl rfl ?_
        refine ExD.take (i := 4) rfl (by kernel_rfl) (fr_indexAddr (sz := 1) rfl rfl rfl rfl rfl rfl (by omega)) ((List.Sublist.refl _)) rfl rfl rfl ?_
        refine ExD.take (i := 5) rfl (by kernel_rfl) (fr_load rfl rfl rfl rfl (cellJ (i := ↑j) (j) (Reads.row (i := 0) rfl) (eI_len .i64) 0 0 rfl (by omega) (by omega) rfl)) ((List.Sublist.refl _)) rfl rfl rfl ?_
        refine ExD.take (i := 6) rfl (by kernel_rfl) (pureVal_ok rfl) ((List.Sublist.refl _)) rfl rfl rfl ?_
        refine ExD.take (i := 7) rfl (by kernel_rfl) (pureVal_ok rfl) ((List.Sublist.refl _)) rfl rfl rfl ?_
        refine ExD.take (i := 8) rfl (by kernel_rfl) (fr_indexAddr (sz := 1) rfl rfl rfl rfl rfl rfl (by omega)) ((List.Sublist.refl _)) rfl rfl rfl ?_
        refine ExD.take (i := 9) rfl (by kernel_rfl) (fr_load rfl rfl rfl rfl (cellJ (i := ↑m) (m) (Reads.row (i := 0) rfl) (eI_len .i64) 0 0 rfl (by omega) (by omega) rfl)) ((List.Sublist.refl _)) rfl rfl rfl ?_
        refine ExD.take (i := 10) rfl (by kernel_rfl) (pureVal_ok rfl) ((List.Sublist.refl _)) rfl rfl rfl ?_
        refine ExD.take (i := 11) rfl (by kernel_rfl) (pureVal_ok rfl) ((List.Sublist.refl _)) rfl rfl rfl ?_
        refine ExD.take (i := 12) rfl (by kernel_rfl) (pureVal_ok rfl) ((List.Sublist.refl _)) rfl rfl rfl ?_
        refine ExD.op (i := 13) rfl (by kernel_rfl) rfl (op_ret rfl rfl rfl (c_cw1 fit n hn K hKl hCK b o As Al ns cs cl _ m j (by omega) (by omega)) (fun w hw => ⟨Reads.get (Reads.blk (i := 2) rfl) w hw, Reads.get (Reads.old hd) w hw, Reads.get (Reads.old hc) w hw, fun k hk => Reads.get (Reads.old (hcr k hk)) w hw⟩) rfl rfl (fun x7 hx7 => ⟨(List.Sublist.refl _), ?_⟩))
        refine ExD.take (i := 14) rfl (by kernel_rfl) (by first | exact fr_add64 rfl rfl rfl (by omega) | exact fr_add rfl rfl rfl) ((List.Sublist.refl _)) rfl rfl rfl ?_
        refine ExD.take (i := 15) rfl (by kernel_rfl) (fr_min rfl rfl rfl) ((List.Sublist.refl _)) rfl rfl rfl ?_
        refine ExD.take (i := 16) rfl (by kernel_rfl) (fr_indexAddr (sz := 1) rfl rfl rfl rfl rfl rfl (by omega)) ((List.Sublist.refl _)) rfl rfl rfl ?_
        refine ExD.last (i := 17) rfl (by kernel_rfl) (by kernel_rfl) rfl (op_storeRowF (i := 0) rfl rfl rfl rfl rfl rfl rfl rfl (room (eI_len .i64) (k := j) (by rw [flR_len (by omega)]; omega) (by simp) rfl) (List.cons_ne_nil _ _) rfl (flR_put (y := (finV fit j (fl fit j) (m + 1))) (by omega) (by simp) (by rw [ha, hlo]; exact congrArg (fun z => [Value.int .i64 z]) (fin_step (by omega)))) ?_)
        refine ExD.done (by kernel_rfl) ?_
        refine Ex.region (ExL.pures 0 rfl ?_)
        refine ExL.free (by first | exact fr_add64 rfl rfl rfl (by omega) | exact fr_add rfl rfl rfl) rfl rfl rfl ?_
        refine ExL.pures 1 rfl ?_
        refine ExL.nil ?_
        refine Hand.mk (m + 1) 3 [0, 1, 2] ⟨rfl, trivial⟩ ⟨rfl, rfl, rfl, rfl, rfl, rfl, rfl, rfl, trivial⟩ (rfl) rfl (by omega) (by omega)
      · refine ExL.nil ?_
        refine Ex.seq ?_
        refine Ex.cond_f rfl ?_
        refine Ex.exit ?_
        obtain rfl : j = m := (by omega)
        refine Ex.region (ExL.pures 1 rfl ?_)
        refine ExL.free (by first | exact fr_add64 rfl rfl rfl (by omega) | exact fr_add rfl rfl rfl) rfl rfl rfl ?_
        refine ExL.pures 1 rfl ?_
        refine ExL.nil ?_
        refine Hand.mk (j + 1) 3 [0, 1, 2] ⟨rfl, trivial⟩ ⟨rfl, rfl, rfl, rfl, rfl, rfl, trivial⟩ (by rw [← flR_fin (by omega)]; rfl) rfl (by omega) (by omega)
    · refine ExL.nil ?_
      refine Ex.cond_f rfl ?_
      refine Ex.exit ?_
      obtain rfl : j = i + 1 := (by omega)
      refine Ex.seq ?_
      refine Ex.regSeq (ExL.pures 1 rfl ?_)
      refine ExL.free (by first | exact fr_sub64 rfl rfl rfl (by omega) | exact fr_sub rfl rfl rfl) rfl rfl rfl ?_
      refine ExL.pures 1 rfl ?_
      refine ExL.nil ?_
      refine Ex.block ?_
      refine Ex.loopK (X := Nat) (fun d => [(11, .int .i64 ((n : Int) - 1 - d))]) (fun d => [.row (.slice (some ⟨r4, 0, none⟩) n n) 2 1 n ((bhO fit n d).flatMap (eI .i64))]) (fun d => d ≤ n - i) (fun d => n - i - d) 0 [(1, _), (4, _), (5, _), (6, _), (7, _), (8, _)] [_, _] 3 [1, 0, 2] ⟨agI (by omega), trivial⟩ ⟨rfl, rfl, rfl, rfl, rfl, rfl, trivial⟩ (pkR (bhO_zero rfl)) rfl (Nat.zero_le _) (fun d hI => ?_)
      have hI : d ≤ n - i := hI
      refine Ex.seq ?_
      refine Ex.regSeq (ExL.pures 2 rfl ?_)
      refine ExL.geq rfl rfl rfl rfl rfl rfl (fun h8 => ?_) (fun h8 => ?_)
      · refine ExL.nil ?_
        refine Ex.cond_t rfl ?_
        refine Ex.skip ?_
        refine Ex.seq ?_
        refine Ex.block ?_
        have hdl : d < n - i := by omega
        rw [show (n : Int) - 1 - d = (((n - 1 - d) : Nat) : Int) by omega]
        refine Ex.regSeq (ExL.pures 3 rfl ?_)
        refine ExL.free (by first | exact fr_sub64 rfl rfl rfl (by omega) | exact fr_sub rfl rfl rfl) rfl rfl rfl ?_
        refine ExL.pures 1 rfl ?_
        refine ExL.free (by first | exact fr_sub64 rfl rfl rfl (by omega) | exact fr_sub rfl rfl rfl) rfl rfl rfl ?_
        refine ExL.free (by first | exact fr_mul64 rfl rfl rfl (by omega) | exact fr_mul rfl rfl rfl) rfl rfl rfl ?_
        refine ExL.free (fr_indexAddr (sz := 1) rfl rfl rfl rfl rfl rfl (by omega)) rfl rfl rfl ?_
        refine ExL.op rfl (op_storeRowF (i := 0) rfl rfl rfl rfl rfl rfl rfl rfl (room (eI_len .i64) (k := (n - 1 - d)) (by rw [bhO_len (by omega)]; omega) (by simp) rfl) (List.cons_ne_nil _ _) rfl (bhO_put (x := (inn fit n d (rl fit n d) 0).cost) (by omega) (by simp) (congrArg (fun z => [Value.int .i64 z]) (by show _ = (d : Int); omega))) ?_)
        refine ExL.nil ?_
        refine Ex.regSeq (ExL.pures 1 rfl ?_)
        refine ExL.free (by first | exact fr_add64 rfl rfl rfl (by omega) | exact fr_add rfl rfl rfl) rfl rfl rfl ?_
        refine ExL.pures 1 rfl ?_
        refine ExL.nil ?_
        refine Ex.block ?_
        refine Ex.loopK (X := Nat) (fun m => [(12, .int .i64 (((n - d + m) : Nat) : Int))]) (fun m => [.row (.slice (some ⟨r4, 0, none⟩) n n) 2 1 n ((bhR fit n d (inn fit n d (rl fit n d) m).cost).flatMap (eI .i64))]) (fun m => m ≤ d) (fun m => d - m) 0 [(1, _), (4, _), (5, _), (6, _), (7, _), (8, _), (11, _)] [_, _] 3 [0, 1, 2] ⟨agI (by omega), trivial⟩ ⟨rfl, rfl, rfl, rfl, rfl, rfl, rfl, trivial⟩ (rfl) rfl (Nat.zero_le _) (fun m hI => ?_)
        have hI : m ≤ d := hI
        refine Ex.seq ?_
        refine Ex.regSeq (ExL.pures 2 rfl ?_)
        refine ExL.lss rfl rfl rfl rfl rfl rfl (fun h9 => ?_) (fun h9 => ?_)
        · refine ExL.nil ?_
          refine Ex.cond_t rfl ?_
          refine Ex.skip ?_
          refine Ex.seq ?_
          refine Ex.block ?_
          have hbl := bhR_len (fit := fit) (n := n) (d := d) (x := (inn fit n d (rl fit n d) m).cost) (by omega)
          have hba := bhR_at (fit := fit) (n := n) (d := d) (x := (inn fit n d (rl fit n d) m).cost) (by omega)
          have hbh := bhR_hi (fit := fit) (n := n) (d := d) (m := m) (x := (inn fit n d (rl fit n d) m).cost) (by omega) (by omega)
          have hrb := rl_bd fit n d (by omega)
          have hrl := rl_len fit n d
          have hcb := cand_bd (fit := fit) hrb hrl (m := m) (by omega)
          have hib := inn_bd (fit := fit) hrb hrl (by omega) m (by omega)
          have he := hrb (d - 1 - m) (by omega)
          have hbk := brk_bd (fit (n - 1 - d) (n - d + m))
          refine Ex.drawM rfl ?_
          refine ExD.take (i := 0) rfl (by kernel_rfl) (pureVal_ok rfl) ((List.Sublist.refl _)) rfl rfl rfl ?_
          refine ExD.take (i := 1) rfl (by kernel_rfl) (pureVal_ok rfl) ((List.Sublist.refl _)) rfl rfl rfl ?_
          refine ExD.take (i := 2) rfl (by kernel_rfl) (pureVal_ok rfl) ((List.Sublist.refl _)) rfl rfl rfl ?_
          refine ExD.take (i := 3) rfl (by kernel_rfl) (pureVal_ok rfl) ((List.Sublist.refl _)) rfl rfl rfl ?_
          refine ExD.take (i := 4) rfl (by kernel_rfl) (fr_indexAddr (sz := 1) rfl rfl rfl rfl rfl rfl (by omega)) ((List.Sublist.refl _)) rfl rfl rfl ?_
          refine ExD.take (i := 5) rfl (by kernel_rfl) (fr_load rfl rfl rfl rfl (cellJ (i := ↑(n - 1 - d)) ((n - 1 - d)) (Reads.row (i := 0) rfl) (eI_len .i64) 0 0 rfl (by omega) (by omega) rfl)) ((List.Sublist.refl _)) rfl rfl rfl ?_
          refine ExD.take (i := 6) rfl (by kernel_rfl) (pureVal_ok rfl) ((List.Sublist.refl _)) rfl rfl rfl ?_
          refine ExD.take (i := 7) rfl (by kernel_rfl) (pureVal_ok rfl) ((List.Sublist.refl _)) rfl rfl rfl ?_
          refine ExD.take (i := 8) rfl (by kernel_rfl) (fr_indexAddr (sz := 1) rfl rfl rfl rfl rfl rfl (by omega)) ((List.Sublist.refl _)) rfl rfl rfl ?_
          refine ExD.take (i := 9) rfl (by kernel_rfl) (fr_load rfl rfl rfl rfl (cellJ (i := ↑(n - d + m)) ((n - d + m)) (Reads.row (i := 0) rfl) (eI_len .i64) 0 0 rfl (by omega) (by omega) rfl)) ((List.Sublist.refl _)) rfl rfl rfl ?_
          refine ExD.take (i := 10) rfl (by kernel_rfl) (pureVal_ok rfl) ((List.Sublist.refl _)) rfl rfl rfl ?_
          refine ExD.take (i := 11) rfl (by kernel_rfl) (pureVal_ok rfl) ((List.Sublist.refl _)) rfl rfl rfl ?_
          refine ExD.take (i := 12) rfl (by kernel_rfl) (pureVal_ok rfl) ((List.Sublist.refl _)) rfl rfl rfl ?_
          refine ExD.op (i := 13) rfl (by kernel_rfl) rfl (op_ret rfl rfl rfl (c_cw1 fit n hn K hKl hCK b o As Al ns cs cl _ (n - 1 - d) (n - d + m) (by omega) (by omega)) (fun w hw => ⟨Reads.get (Reads.blk (i := 2) rfl) w hw, Reads.get (Reads.old hd) w hw, Reads.get (Reads.old hc) w hw, fun k hk => Reads.get (Reads.old (hcr k hk)) w hw⟩) rfl rfl (fun x10 hx10 => ⟨(List.Sublist.refl _), ?_⟩))
          refine ExD.take (i := 14) rfl (by kernel_rfl) (by first | exact fr_add64 rfl rfl rfl (by omega) | exact fr_add rfl rfl rfl) ((List.Sublist.refl _)) rfl rfl rfl ?_
          refine ExD.take (i := 15) rfl (by kernel_rfl) (fr_min rfl rfl rfl) ((List.Sublist.refl _)) rfl rfl rfl ?_
          refine ExD.take (i := 16) rfl (by kernel_rfl) (fr_indexAddr (sz := 1) rfl rfl rfl rfl rfl rfl (by omega)) ((List.Sublist.refl _)) rfl rfl rfl ?_
          refine ExD.last (i := 17) rfl (by kernel_rfl) (by kernel_rfl) rfl (op_storeRowF (i := 0) rfl rfl rfl rfl rfl rfl rfl rfl (room (eI_len .i64) (k := (n - 1 - d)) (by rw [bhR_len (by omega)]; omega) (by simp) rfl) (List.cons_ne_nil _ _) rfl (bhR_put (y := (inn fit n d (rl fit n d) (m + 1)).cost) (by omega) (by simp) (by rw [hba, hbh]; exact congrArg (fun z => [Value.int .i64 z]) (inn_min (by unfold candC; omega)))) ?_)
          refine ExD.done (by kernel_rfl) ?_
          refine Ex.region (ExL.pures 1 rfl ?_)
          refine ExL.free (by first | exact fr_add64 rfl rfl rfl (by omega) | exact fr_add rfl rfl rfl) rfl rfl rfl ?_
          refine ExL.pures 1 rfl ?_
          refine ExL.nil ?_
          refine Hand.mk (m + 1) 3 [0, 1, 2] ⟨agI (by omega), trivial⟩ ⟨rfl, rfl, rfl, rfl, rfl, rfl, rfl, trivial⟩ (rfl) rfl (by omega) (by omega)
        · refine ExL.nil ?_
          refine Ex.cond_f rfl ?_
          refine Ex.exit ?_
          obtain rfl : d = m := (by omega)
          refine Ex.region (ExL.pures 1 rfl ?_)
          refine ExL.free (by first | exact fr_sub64 rfl rfl rfl (by omega) | exact fr_sub rfl rfl rfl) rfl rfl rfl ?_
          refine ExL.pures 1 rfl ?_
          refine ExL.nil ?_
          refine Hand.mk (d + 1) 3 [0, 1, 2] ⟨agI (by omega), trivial⟩ ⟨rfl, rfl, rfl, rfl, rfl, rfl, trivial⟩ (by rw [← bhR_fin (by omega)]; rfl) rfl (by omega) (by omega)
      · refine ExL.nil ?_
        refine Ex.cond_f rfl ?_
        refine Ex.exit ?_
        obtain rfl : d = n - i := (by omega)
        have hfl := flO_len (fit := fit) (n := n) (i := i + 1) (by omega)
        have hfa := flO_at (fit := fit) (n := n) (i := i) (j := i + 1) (by omega)
        have hbl := bhO_len (fit := fit) (n := n) (d := n - i) (by omega)
        have hba := bhO_hi (fit := fit) (n := n) (d := n - i) (k := i) (by omega) (by omega) (by omega)
        have hxb := fin_bd (fit := fit) (i := i) (fl_bd fit i) i (Nat.le_refl _)
        have hrb := rst_bd (fit := fit) (n := n) (i := i) (by omega)
        refine Ex.drawSeqM rfl ?_
        refine ExD.take (i := 0) rfl (by kernel_rfl) (pureVal_ok rfl) ((List.Sublist.refl _)) rfl rfl rfl ?_
        refine ExD.take (i := 1) rfl (by kernel_rfl) (pureVal_ok rfl) ((List.Sublist.refl _)) rfl rfl rfl ?_
        refine ExD.take (i := 2) rfl (by kernel_rfl) (fr_indexAddr (sz := 1) rfl rfl rfl rfl rfl rfl (by omega)) ((List.Sublist.refl _)) rfl rfl rfl ?_
        refine ExD.take (i := 3) rfl (by kernel_rfl) (fr_load rfl rfl rfl rfl (cellJ (i := ↑i) (i) (Reads.row (i := 1) rfl) (eI_len .i64) 0 0 rfl (by omega) (by omega) rfl)) ((List.Sublist.refl _)) rfl rfl rfl ?_
        refine ExD.take (i := 4) rfl (by kernel_rfl) (pureVal_ok rfl) ((List.Sublist.refl _)) rfl rfl rfl ?_
        refine ExD.take (i := 5) rfl (by kernel_rfl) (pureVal_ok rfl) ((List.Sublist.refl _)) rfl rfl rfl ?_
        refine ExD.take (i := 6) rfl (by kernel_rfl) (fr_indexAddr (sz := 1) rfl rfl rfl rfl rfl rfl (by omega)) ((List.Sublist.refl _)) rfl rfl rfl ?_
        refine ExD.take (i := 7) rfl (by kernel_rfl) (fr_load rfl rfl rfl rfl (cellJ (i := ↑i) (i) (Reads.row (i := 0) rfl) (eI_len .i64) 0 0 rfl (by omega) (by omega) rfl)) ((List.Sublist.refl _)) rfl rfl rfl ?_
        refine ExD.take (i := 8) rfl (by kernel_rfl) (by first | exact fr_add64 rfl rfl rfl (by omega) | exact fr_add rfl rfl rfl) ((List.Sublist.refl _)) rfl rfl rfl ?_
        refine ExD.take (i := 9) rfl (by kernel_rfl) (pureVal_ok rfl) ((List.Sublist.refl _)) rfl rfl rfl ?_
        refine ExD.done (by kernel_rfl) ?_
        refine Ex.ret ?_
        refine RetQ.mk () rfl (.tmp rfl .nil) (tI (by unfold withV; rw [hfa, hba])) [] (rfl) rfl (trivial)
  · refine ExD.op (i := 1) rfl (by kernel_rfl) rfl (op_makeSlice (sz := 8) rfl rfl rfl rfl rfl rfl rfl rfl (⟨by omega, by unfold maxLen; omega⟩) rfl rfl (fun r11 => ⟨(List.Sublist.cons _ (List.Sublist.cons _ (List.Sublist.refl _))), ?_⟩))
    refine ExD.take (i := 4) rfl (by kernel_rfl) (pureVal_ok rfl) ((List.Sublist.cons _ (List.Sublist.cons _ (List.Sublist.refl _)))) rfl rfl rfl ?_
    refine ExD.take (i := 5) rfl (by kernel_rfl) (pureVal_ok rfl) ((List.Sublist.cons _ (List.Sublist.cons _ (List.Sublist.refl _)))) rfl rfl rfl ?_
    refine ExD.done (by kernel_rfl) ?_
    refine Ex.seq ?_
    refine Ex.regSeq (ExL.pures 1 rfl ?_)
    refine ExL.nil ?_
    refine Ex.block ?_
    refine Ex.loopK (X := Nat) (fun j => [(9, .int .i64 j)]) (fun j => [.row (.slice (some ⟨r11, 0, none⟩) n n) 2 1 n ((flO fit n j).flatMap (eI .i64))]) (fun j => j ≤ i + 1) (fun j => i + 1 - j) 0 [(1, _), (4, _), (5, _), (6, _), (7, _), (8, _)] [_, _] 3 [0, 1, 2] ⟨rfl, trivial⟩ ⟨rfl, rfl, rfl, rfl, rfl, rfl, trivial⟩ (pkR (flO_zero rfl)) rfl (Nat.zero_le _) (fun j hI => ?_)
    have hI : j ≤ i + 1 := hI
    refine Ex.seq ?_
    refine Ex.regSeq (ExL.pures 2 rfl ?_)
    refine ExL.leq rfl rfl rfl rfl rfl rfl (fun h12 => ?_) (fun h12 => ?_)
    · refine ExL.nil ?_
      refine Ex.cond_t rfl ?_
      refine Ex.skip ?_
      refine Ex.seq ?_
      refine Ex.block ?_
      refine Ex.regSeq (ExL.pures 3 rfl ?_)
      refine ExL.free (by first | exact fr_mul64 rfl rfl rfl (by omega) | exact fr_mul rfl rfl rfl) rfl rfl rfl ?_
      refine ExL.free (fr_indexAddr (sz := 1) rfl rfl rfl rfl rfl rfl (by omega)) rfl rfl rfl ?_
      refine ExL.op rfl (op_storeRowF (i := 0) rfl rfl rfl rfl rfl rfl rfl rfl (room (eI_len .i64) (k := j) (by rw [flO_len (by omega)]; omega) (by simp) rfl) (List.cons_ne_nil _ _) rfl (flO_put (x := (finV fit j (fl fit j) 0)) (by omega) (by simp) (by rw [Int.mul_one]; rfl)) ?_)
      refine ExL.nil ?_
      refine Ex.regSeq (ExL.pures 2 rfl ?_)
      refine ExL.nil ?_
      refine Ex.block ?_
      refine Ex.loopK (X := Nat) (fun m => [(34, .int .i64 m)]) (fun m => [.row (.slice (some ⟨r11, 0, none⟩) n n) 2 1 n ((flR fit n j (finV fit j (fl fit j) m)).flatMap (eI .i64))]) (fun m => m ≤ j) (fun m => j - m) 0 [(1, _), (4, _), (5, _), (6, _), (7, _), (8, _), (9, _), (33, _)] [_, _] 3 [0, 1, 2] ⟨rfl, trivial⟩ ⟨rfl, rfl, rfl, rfl, rfl, rfl, rfl, rfl, trivial⟩ (rfl) rfl (Nat.zero_le _) (fun m hI => ?_)
      have hI : m ≤ j := hI
      refine Ex.regSeq (ExL.pures 0 rfl ?_)
      refine ExL.lss rfl rfl rfl rfl rfl rfl (fun h13 => ?_) (fun h13 => ?_)
      · refine ExL.nil ?_
        refine Ex.seq ?_
        refine Ex.cond_t rfl ?_
        refine Ex.skip ?_
        refine Ex.seq ?_
        refine Ex.block ?_
        refine Ex.regSeq (ExL.pures 2 rfl ?_)
        refine ExL.nil ?_
        have hfl := flR_len (fit := fit) (n := n) (i := j) (x := (finV fit j (fl fit j) m)) (by omega)
        have ha := flR_at (fit := fit) (n := n) (i := j) (x := (finV fit j (fl fit j) m))
        have hlo := flR_lo (fit := fit) (n := n) (i := j) (k := m) (x := (finV fit j (fl fit j) m)) (by omega)
        have hfb := fl_bd fit j m (by omega)
        have hxb := fin_bd (fit := fit) (i := j) (fl_bd fit j) m (by omega)
        have hbk := brk_bd (fit m j)
        refine Ex.drawM rfl ?_
        refine ExD.take (i := 0) rfl (by kernel_rfl) (pureVal_ok rfl) ((List.Sublist.refl _)) rfl rfl rfl ?_
        refine ExD.take (i := 1) rfl (by kernel_rfl) (pureVal_ok rfl) ((List.Sublist.refl _)) rfl rfl rfl ?_
        refine ExD.take (i := 2) rfl (by kernel_rfl) (pureVal_ok rfl) ((List.Sublist.refl _)) rfl rfl rfl ?_
        refine ExD.take (i := 3) rfl (by kernel_rfl) (pureVal_ok rfl) ((List.Sublist.refl _)) rfl rfl rfl ?_
        refine ExD.take (i := 4) rfl (by kernel_rfl) (fr_indexAddr (sz := 1) rfl rfl rfl rfl rfl rfl (by omega)) ((List.Sublist.refl _)) rfl rfl rfl ?_
        refine ExD.take (i := 5) rfl (by kernel_rfl) (fr_load rfl rfl rfl rfl (cellJ (i := ↑j) (j) (Reads.row (i := 0) rfl) (eI_len .i64) 0 0 rfl (by omega) (by omega) rfl)) ((List.Sublist.refl _)) rfl rfl rfl ?_
        refine ExD.take (i := 6) rfl (by kernel_rfl) (pureVal_ok rfl) ((List.Sublist.refl _)) rfl rfl rfl ?_
        refine ExD.take (i := 7) rfl (by kernel_rfl) (pureVal_ok rfl) ((List.Sublist.refl _)) rfl rfl rfl ?_
        refine ExD.take (i := 8) rfl (by kernel_rfl) (fr_indexAddr (sz := 1) rfl rfl rfl rfl rfl rfl (by omega)) ((List.Sublist.refl _)) rfl rfl rfl ?_
        refine ExD.take (i := 9) rfl (by kernel_rfl) (fr_load rfl rfl rfl rfl (cellJ (i := ↑m) (m) (Reads.row (i := 0) rfl) (eI_len .i64) 0 0 rfl (by omega) (by omega) rfl)) ((List.Sublist.refl _)) rfl rfl rfl ?_
        refine ExD.take (i := 10) rfl (by kernel_rfl) (pureVal_ok rfl) ((List.Sublist.refl _)) rfl rfl rfl ?_
        refine ExD.take (i := 11) rfl (by kernel_rfl) (pureVal_ok rfl) ((List.Sublist.refl _)) rfl rfl rfl ?_
        refine ExD.take (i := 12) rfl (by kernel_rfl) (pureVal_ok rfl) ((List.Sublist.refl _)) rfl rfl rfl ?_
        refine ExD.op (i := 13) rfl (by kernel_rfl) rfl (op_ret rfl rfl rfl (c_cw1 fit n hn K hKl hCK b o As Al ns cs cl _ m j (by omega) (by omega)) (fun w hw => ⟨Reads.get (Reads.blk (i := 2) rfl) w hw, Reads.get (Reads.old hd) w hw, Reads.get (Reads.old hc) w hw, fun k hk => Reads.get (Reads.old (hcr k hk)) w hw⟩) rfl rfl (fun x14 hx14 => ⟨(List.Sublist.refl _), ?_⟩))
        refine ExD.take (i := 14) rfl (by kernel_rfl) (by first | exact fr_add64 rfl rfl rfl (by omega) | exact fr_add rfl rfl rfl) ((List.Sublist.refl _)) rfl rfl rfl ?_
        refine ExD.take (i := 15) rfl (by kernel_rfl) (fr_min rfl rfl rfl) ((List.Sublist.refl _)) rfl rfl rfl ?_
        refine ExD.take (i := 16) rfl (by kernel_rfl) (fr_indexAddr (sz := 1) rfl rfl rfl rfl rfl rfl (by omega)) ((List.Sublist.refl _)) rfl rfl rfl ?_
        refine ExD.last (i := 17) rfl (by kernel_rfl) (by kernel_rfl) rfl (op_storeRowF (i := 0) rfl rfl rfl rfl rfl rfl rfl rfl (room (eI_len .i64) (k := j) (by rw [flR_len (by omega)]; omega) (by simp) rfl) (List.cons_ne_nil _ _) rfl (flR_put (y := (finV fit j (fl fit j) (m + 1))) (by omega) (by simp) (by rw [ha, hlo]; exact congrArg (fun z => [Value.int .i64 z]) (fin_step (by omega)))) ?_)
        refine ExD.done (by kernel_rfl) ?_
        refine Ex.region (ExL.pures 0 rfl ?_)
        refine ExL.free (by first | exact fr_add64 rfl rfl rfl (by omega) | exact fr_add rfl rfl rfl) rfl rfl rfl ?_
        refine ExL.pures 1 rfl ?_
        refine ExL.nil ?_
        refine Hand.mk (m + 1) 3 [0, 1, 2] ⟨rfl, trivial⟩ ⟨rfl, rfl, rfl, rfl, rfl, rfl, rfl, rfl, trivial⟩ (rfl) rfl (by omega) (by omega)
      · refine ExL.nil ?_
        refine Ex.seq ?_
        refine Ex.cond_f rfl ?_
        refine Ex.exit ?_
        obtain rfl : j = m := (by omega)
        refine Ex.region (ExL.pures 1 rfl ?_)
        refine ExL.free (by first | exact fr_add64 rfl rfl rfl (by omega) | exact fr_add rfl rfl rfl) rfl rfl rfl ?_
        refine ExL.pures 1 rfl ?_
        refine ExL.nil ?_
        refine Hand.mk (j + 1) 3 [0, 1, 2] ⟨rfl, trivial⟩ ⟨rfl, rfl, rfl, rfl, rfl, rfl, trivial⟩ (by rw [← flR_fin (by omega)]; rfl) rfl (by omega) (by omega)
    · refine ExL.nil ?_
      refine Ex.cond_f rfl ?_
      refine Ex.exit ?_
      obtain rfl : j = i + 1 := (by omega)
      refine Ex.seq ?_
      refine Ex.regSeq (ExL.pures 1 rfl ?_)
      refine ExL.free (by first | exact fr_sub64 rfl rfl rfl (by omega) | exact fr_sub rfl rfl rfl) rfl rfl rfl ?_
      refine ExL.pures 1 rfl ?_
      refine ExL.nil ?_
      refine Ex.block ?_
      refine Ex.loopK (X := Nat) (fun d => [(11, .int .i64 ((n : Int) - 1 - d))]) (fun d => [.row (.slice (some ⟨r3, 0, none⟩) n n) 2 1 n ((bhO fit n d).flatMap (eI .i64))]) (fun d => d ≤ n - i) (fun d => n - i - d) 0 [(1, _), (4, _), (5, _), (6, _), (7, _), (8, _)] [_, _] 3 [1, 0, 2] ⟨agI (by omega), trivial⟩ ⟨rfl, rfl, rfl, rfl, rfl, rfl, trivial⟩ (pkR (bhO_zero rfl)) rfl (Nat.zero_le _) (fun d hI => ?_)
      have hI : d ≤ n - i := hI
      refine Ex.seq ?_
      refine Ex.regSeq (ExL.pures 2 rfl ?_)
      refine ExL.geq rfl rfl rfl rfl rfl rfl (fun h15 => ?_) (fun h15 => ?_)
      · refine ExL.nil ?_
        refine Ex.cond_t rfl ?_
        refine Ex.skip ?_
        refine Ex.seq ?_
        refine Ex.block ?_
        have hdl : d < n - i := by omega
        rw [show (n : Int) - 1 - d = (((n - 1 - d) : Nat) : Int) by omega]
        refine Ex.regSeq (ExL.pures 3 rfl ?_)
        refine ExL.free (by first | exact fr_sub64 rfl rfl rfl (by omega) | exact fr_sub rfl rfl rfl) rfl rfl rfl ?_
        refine ExL.pures 1 rfl ?_
        refine ExL.free (by first | exact fr_sub64 rfl rfl rfl (by omega) | exact fr_sub rfl rfl rfl) rfl rfl rfl ?_
        refine ExL.free (by first | exact fr_mul64 rfl rfl rfl (by omega) | exact fr_mul rfl rfl rfl) rfl rfl rfl ?_
        refine ExL.free (fr_indexAddr (sz := 1) rfl rfl rfl rfl rfl rfl (by omega)) rfl rfl rfl ?_
        refine ExL.op rfl (op_storeRowF (i := 0) rfl rfl rfl rfl rfl rfl rfl rfl (room (eI_len .i64) (k := (n - 1 - d)) (by rw [bhO_len (by omega)]; omega) (by simp) rfl) (List.cons_ne_nil _ _) rfl (bhO_put (x := (inn fit n d (rl fit n d) 0).cost) (by omega) (by simp) (congrArg (fun z => [Value.int .i64 z]) (by show _ = (d : Int); omega))) ?_)
        refine ExL.nil ?_
        refine Ex.regSeq (ExL.pures 1 rfl ?_)
        refine ExL.free (by first | exact fr_add64 rfl rfl rfl (by omega) | exact fr_add rfl rfl rfl) rfl rfl rfl ?_
        refine ExL.pures 1 rfl ?_
        refine ExL.nil ?_
        refine Ex.block ?_
        refine Ex.loopK (X := Nat) (fun m => [(12, .int .i64 (((n - d + m) : Nat) : Int))]) (fun m => [.row (.slice (some ⟨r3, 0, none⟩) n n) 2 1 n ((bhR fit n d (inn fit n d (rl fit n d) m).cost).flatMap (eI .i64))]) (fun m => m ≤ d) (fun m => d - m) 0 [(1, _), (4, _), (5, _), (6, _), (7, _), (8, _), (11, _)] [_, _] 3 [0, 1, 2] ⟨agI (by omega), trivial⟩ ⟨rfl, rfl, rfl, rfl, rfl, rfl, rfl, trivial⟩ (rfl) rfl (Nat.zero_le _) (fun m hI => ?_)
        have hI : m ≤ d := hI
        refine Ex.seq ?_
        refine Ex.regSeq (ExL.pures 2 rfl ?_)
        refine ExL.lss rfl rfl rfl rfl rfl rfl (fun h16 => ?_) (fun h16 => ?_)
        · refine ExL.nil ?_
          refine Ex.cond_t rfl ?_
          refine Ex.skip ?_
          refine Ex.seq ?_
          refine Ex.block ?_
          have hbl := bhR_len (fit := fit) (n := n) (d := d) (x := (inn fit n d (rl fit n d) m).cost) (by omega)
          have hba := bhR_at (fit := fit) (n := n) (d := d) (x := (inn fit n d (rl fit n d) m).cost) (by omega)
          have hbh := bhR_hi (fit := fit) (n := n) (d := d) (m := m) (x := (inn fit n d (rl fit n d) m).cost) (by omega) (by omega)
          have hrb := rl_bd fit n d (by omega)
          have hrl := rl_len fit n d
          have hcb := cand_bd (fit := fit) hrb hrl (m := m) (by omega)
          have hib := inn_bd (fit := fit) hrb hrl (by omega) m (by omega)
          have he := hrb (d - 1 - m) (by omega)
          have hbk := brk_bd (fit (n - 1 - d) (n - d + m))
          refine Ex.drawM rfl ?_
          refine ExD.take (i := 0) rfl (by kernel_rfl) (pureVal_ok rfl) ((List.Sublist.refl _)) rfl rfl rfl ?_
          refine ExD.take (i := 1) rfl (by kernel_rfl) (pureVal_ok rfl) ((List.Sublist.refl _)) rfl rfl rfl ?_
          refine ExD.take (i := 2) rfl (by kernel_rfl) (pureVal_ok rfl) ((List.Sublist.refl _)) rfl rfl rfl ?_
          refine ExD.take (i := 3) rfl (by kernel_rfl) (pureVal_ok rfl) ((List.Sublist.refl _)) rfl rfl rfl ?_
          refine ExD.take (i := 4) rfl (by kernel_rfl) (fr_indexAddr (sz := 1) rfl rfl rfl rfl rfl rfl (by omega)) ((List.Sublist.refl _)) rfl rfl rfl ?_
          refine ExD.take (i := 5) rfl (by kernel_rfl) (fr_load rfl rfl rfl rfl (cellJ (i := ↑(n - 1 - d)) ((n - 1 - d)) (Reads.row (i := 0) rfl) (eI_len .i64) 0 0 rfl (by omega) (by omega) rfl)) ((List.Sublist.refl _)) rfl rfl rfl ?_
          refine ExD.take (i := 6) rfl (by kernel_rfl) (pureVal_ok rfl) ((List.Sublist.refl _)) rfl rfl rfl ?_
          refine ExD.take (i := 7) rfl (by kernel_rfl) (pureVal_ok rfl) ((List.Sublist.refl _)) rfl rfl rfl ?_
          refine ExD.take (i := 8) rfl (by kernel_rfl) (fr_indexAddr (sz := 1) rfl rfl rfl rfl rfl rfl (by omega)) ((List.Sublist.refl _)) rfl rfl rfl ?_
          refine ExD.take (i := 9) rfl (by kernel_rfl) (fr_load rfl rfl rfl rfl (cellJ (i := ↑(n - d + m)) ((n - d + m)) (Reads.row (i := 0) rfl) (eI_len .i64) 0 0 rfl (by omega) (by omega) rfl)) ((List.Sublist.refl _)) rfl rfl rfl ?_
          refine ExD.take (i := 10) rfl (by kernel_rfl) (pureVal_ok rfl) ((List.Sublist.refl _)) rfl rfl rfl ?_
          refine ExD.take (i := 11) rfl (by kernel_rfl) (pureVal_ok rfl) ((List.Sublist.refl _)) rfl rfl rfl ?_
          refine ExD.take (i := 12) rfl (by kernel_rfl) (pureVal_ok rfl) ((List.Sublist.refl _)) rfl rfl rfl ?_
          refine ExD.op (i := 13) rfl (by kernel_rfl) rfl (op_ret rfl rfl rfl (c_cw1 fit n hn K hKl hCK b o As Al ns cs cl _ (n - 1 - d) (n - d + m) (by omega) (by omega)) (fun w hw => ⟨Reads.get (Reads.blk (i := 2) rfl) w hw, Reads.get (Reads.old hd) w hw, Reads.get (Reads.old hc) w hw, fun k hk => Reads.get (Reads.old (hcr k hk)) w hw⟩) rfl rfl (fun x17 hx17 => ⟨(List.Sublist.refl _), ?_⟩))
          refine ExD.take (i := 14) rfl (by kernel_rfl) (by first | exact fr_add64 rfl rfl rfl (by omega) | exact fr_add rfl rfl rfl) ((List.Sublist.refl _)) rfl rfl rfl ?_
          refine ExD.take (i := 15) rfl (by kernel_rfl) (fr_min rfl rfl rfl) ((List.Sublist.refl _)) rfl rfl rfl ?_
          refine ExD.take (i := 16) rfl (by kernel_rfl) (fr_indexAddr (sz := 1) rfl rfl rfl rfl rfl rfl (by omega)) ((List.Sublist.refl _)) rfl rfl rfl ?_
          refine ExD.last (i := 17) rfl (by kernel_rfl) (by kernel_rfl) rfl (op_storeRowF (i := 0) rfl rfl rfl rfl rfl rfl rfl rfl (room (eI_len .i64) (k := (n - 1 - d)) (by rw [bhR_len (by omega)]; omega) (by simp) rfl) (List.cons_ne_nil _ _) rfl (bhR_put (y := (inn fit n d (rl fit n d) (m + 1)).cost) (by omega) (by simp) (by rw [hba, hbh]; exact congrArg (fun z => [Value.int .i64 z]) (inn_min (by unfold candC; omega)))) ?_)
          refine ExD.done (by kernel_rfl) ?_
          refine Ex.region (ExL.pures 1 rfl ?_)
          refine ExL.free (by first | exact fr_add64 rfl rfl rfl (by omega) | exact fr_add rfl rfl rfl) rfl rfl rfl ?_
          refine ExL.pures 1 rfl ?_
          refine ExL.nil ?_
          refine Hand.mk (m + 1) 3 [0, 1, 2] ⟨agI (by omega), trivial⟩ ⟨rfl, rfl, rfl, rfl, rfl, rfl, rfl, trivial⟩ (rfl) rfl (by omega) (by omega)
        · refine ExL.nil ?_
          refine Ex.cond_f rfl ?_
          refine Ex.exit ?_
          obtain rfl : d = m := (by omega)
          refine Ex.region (ExL.pures 1 rfl ?_)
          refine ExL.free (by first | exact fr_sub64 rfl rfl rfl (by omega) | exact fr_sub rfl rfl rfl) rfl rfl rfl ?_
          refine ExL.pures 1 rfl ?_
          refine ExL.nil ?_
          refine Hand.mk (d + 1) 3 [0, 1, 2] ⟨agI (by omega), trivial⟩ ⟨rfl, rfl, rfl, rfl, rfl, rfl, trivial⟩ (by rw [← bhR_fin (by omega)]; rfl) rfl (by omega) (by omega)
      · refine ExL.nil ?_
        refine Ex.cond_f rfl ?_
        refine Ex.exit ?_
        obtain rfl : d = n - i := (by omega)
        have hfl := flO_len (fit := fit) (n := n) (i := i + 1) (by omega)
        have hfa := flO_at (fit := fit) (n := n) (i := i) (j := i + 1) (by omega)
        have hbl := bhO_len (fit := fit) (n := n) (d := n - i) (by omega)
        have hba := bhO_hi (fit := fit) (n := n) (d := n - i) (k := i) (by omega) (by omega) (by omega)
        have hxb := fin_bd (fit := fit) (i := i) (fl_bd fit i) i (Nat.le_refl _)
        have hrb := rst_bd (fit := fit) (n := n) (i := i) (by omega)
        refine Ex.drawSeqM rfl ?_
        refine ExD.take (i := 0) rfl (by kernel_rfl) (pureVal_ok rfl) ((List.Sublist.refl _)) rfl rfl rfl ?_
        refine ExD.take (i := 1) rfl (by kernel_rfl) (pureVal_ok rfl) ((List.Sublist.refl _)) rfl rfl rfl ?_
        refine ExD.take (i := 2) rfl (by kernel_rfl) (fr_indexAddr (sz := 1) rfl rfl rfl rfl rfl rfl (by omega)) ((List.Sublist.refl _)) rfl rfl rfl ?_
        refine ExD.take (i := 3) rfl (by kernel_rfl) (fr_load rfl rfl rfl rfl (cellJ (i := ↑i) (i) (Reads.row (i := 1) rfl) (eI_len .i64) 0 0 rfl (by omega) (by omega) rfl)) ((List.Sublist.refl _)) rfl rfl rfl ?_
        refine ExD.take (i := 4) rfl (by kernel_rfl) (pureVal_ok rfl) ((List.Sublist.refl _)) rfl rfl rfl ?_
        refine ExD.take (i := 5) rfl (by kernel_rfl) (pureVal_ok rfl) ((List.Sublist.refl _)) rfl rfl rfl ?_
        refine ExD.take (i := 6) rfl (by kernel_rfl) (fr_indexAddr (sz := 1) rfl rfl rfl rfl rfl rfl (by omega)) ((List.Sublist.refl _)) rfl rfl rfl ?_
        refine ExD.take (i := 7) rfl (by kernel_rfl) (fr_load rfl rfl rfl rfl (cellJ (i := ↑i) (i) (Reads.row (i := 0) rfl) (eI_len .i64) 0 0 rfl (by omega) (by omega) rfl)) ((List.Sublist.refl _)) rfl rfl rfl ?_
        refine ExD.take (i := 8) rfl (by kernel_rfl) (by first | exact fr_add64 rfl rfl rfl (by omega) | exact fr_add rfl rfl rfl) ((List.Sublist.refl _)) rfl rfl rfl ?_
        refine ExD.take (i := 9) rfl (by kernel_rfl) (pureVal_ok rfl) ((List.Sublist.refl _)) rfl rfl rfl ?_
        refine ExD.done (by kernel_rfl) ?_
        refine Ex.ret ?_
        refine RetQ.mk () rfl (.tmp rfl .nil) (tI (by unfold withV; rw [hfa, hba])) [] (rfl) rfl (trivial)
end Go.Proofs.Ytepahnikcojepaa
