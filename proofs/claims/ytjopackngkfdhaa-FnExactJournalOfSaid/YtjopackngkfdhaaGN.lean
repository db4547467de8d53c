/- What these functions of the program hand back, each proved by walking its operations. -/
import Derived.Test.YtjopackngkfdhaaProg
import Derived.Test.YtjopackngkfdhaaFw
import Derived.Test.YtjopackngkfdhaaGZ
import Derived.Test.YtjopackngkfdhaaF2
import Derived.Test.YtjopackngkfdhaaM5
set_option linter.unusedVariables false
set_option linter.unusedSimpArgs false
set_option maxRecDepth 4000
namespace Go.Proofs.Ytjopackngkfdhaa
open Go Go.Sx Go.RowKit Go.W Go.Proofs
attribute [local irreducible] Ex ExL ExD Op1 Free RetQ MutQ Reads CellO SegO LoadsAs
theorem eq_Act (d : Nat) (a b : VAct) : EqOk Try.prog (d + 1 + 1) 26 (.agg (encA a).toArray) (.agg (encA b).toArray) (sameA a b) := by
  refine EqOk.as (EqOk.struct rfl rfl (by kernel_rfl) (EqFs.one rfl rfl rfl rfl rfl (EqOk.int rfl) (EqFs.one rfl rfl rfl rfl rfl (EqOk.int rfl) EqFs.nil))) ?_
  unfold sameA; simp [Bool.decide_and]
theorem eq_Note (a b : VNote) : EqOk Try.prog 10000 109 (.agg (encN a).toArray) (.agg (encN b).toArray) (sameN a b) := by
  refine EqOk.as (EqOk.struct (d := 9999) rfl rfl (by kernel_rfl) (EqFs.many (cx := encA a.act) (cy := encA b.act) rfl rfl rfl rfl rfl rfl (eq_Act 9997 a.act b.act) (EqFs.many (cx := encD a.shows) (cy := encD b.shows) rfl rfl rfl rfl rfl rfl (EqOk.ints (d := 9997) rfl rfl rfl rfl a.shows.l b.shows.l rfl rfl) (EqFs.one rfl rfl rfl rfl rfl (EqOk.int rfl) EqFs.nil)))) ?_
  unfold sameN; simp [Bool.decide_and]
theorem e_42 : Enters Try.prog 42 := Enters.of Try.func42 rfl
theorem c_szActS (s : List VAct) (As : Option Addr) (cs : Nat) (hls : s.length ≤ maxLen) (n : Int) (hn : 0 ≤ n ∧ n ≤ 1048576) : Ret Try.prog 42 [.slice As s.length cs, .int .i64 n] (fun w => True) (fun x : Int => .int .i64 x) (fun x => []) (fun x => x ≤ n ∧ (0 ≤ x → (s.length : Int) ≤ n)) := by
  refine Ret.of e_42 Try.func42 rfl Try.ntmps42 rfl rfl (fun w hpre => ?_)
  have hm0 : maxLen = 9223372036854775807 := rfl
  refine Ex.regSeq (ExL.pures 1 rfl ?_)
  refine ExL.nil ?_
  refine Ex.regSeq (ExL.pures 3 rfl ?_)
  refine ExL.free (by first | exact fr_sub64 rfl rfl rfl (by omega) | exact fr_sub rfl rfl rfl) rfl rfl rfl ?_
  refine ExL.pures 1 rfl ?_
  refine ExL.nil ?_
  refine Ex.seq ?_
  refine Ex.regSeq (ExL.pures 1 rfl ?_)
  refine ExL.lss rfl rfl rfl rfl rfl rfl (fun h1 => ?_) (fun h1 => ?_)
  · refine ExL.nil ?_
    refine Ex.cond_t rfl ?_
    refine Ex.regSeq (ExL.pures 1 rfl ?_)
    refine ExL.nil ?_
    refine Ex.ret ?_
    refine RetQ.mk _ rfl (.tmp rfl .nil) (rfl) [] (rfl) rfl (by first | omega | (simp; omega))
  · refine ExL.nil ?_
    refine Ex.cond_f rfl ?_
    refine Ex.skip ?_
    refine Ex.regSeq (ExL.pures 2 rfl ?_)
    refine ExL.nil ?_
    refine Ex.ret ?_
    refine RetQ.mk _ rfl (.tmp rfl .nil) (rfl) [] (rfl) rfl (by first | omega | (simp; omega))
theorem e_44 : Enters Try.prog 44 := Enters.of Try.func44 rfl
theorem c_toActS (s : List VAct) (As : Option Addr) (cs : Nat) (hls : s.length ≤ 1048576) : Ret Try.prog 44 [.slice As s.length cs] (fun w => Rd w As (s.flatMap encA)) (fun x : Nat => .slice (some ⟨x, 0, none⟩) s.length s.length) (fun x => [.row (.slice (some ⟨x, 0, none⟩) s.length s.length) 26 2 s.length (s.flatMap encA)]) (fun x => True) := by
  refine Ret.of e_44 Try.func44 rfl Try.ntmps44 rfl rfl (fun w hpre => ?_)
  have hs := hpre.base
  refine Ex.regSeq (ExL.pures 1 rfl ?_)
  refine ExL.nil ?_
  refine Ex.regSeq (ExL.pures 2 rfl ?_)
  refine ExL.op rfl (op_makeSlice (sz := 16) rfl rfl rfl rfl rfl rfl rfl rfl (⟨by omega, by unfold maxLen; omega⟩) rfl rfl (fun r1 => ?_))
  refine ExL.pures 1 rfl ?_
  refine ExL.nil ?_
  refine Ex.seq ?_
  refine Ex.regSeq (ExL.pures 1 rfl ?_)
  refine ExL.nil ?_
  refine Ex.block ?_
  refine Ex.loopK (X := Nat) (fun k => [(4, .int .i64 k)]) (fun k => [.row (.slice (some ⟨r1, 0, none⟩) s.length s.length) 26 2 s.length ((Sx.part zA s k).flatMap encA)]) (fun k => k ≤ s.length) (fun k => s.length - k) 0 [(0, _), (2, _), (3, _)] [] 1 [0] ⟨rfl, trivial⟩ ⟨rfl, rfl, rfl, trivial⟩ (pkR (zpart encA_len zA rfl s rfl)) rfl (Nat.zero_le _) (fun k hI => ?_)
  have hI : k ≤ s.length := hI
  refine Ex.seq ?_
  refine Ex.regSeq (ExL.pures 3 rfl ?_)
  refine ExL.lss rfl rfl rfl rfl rfl rfl (fun h2 => ?_) (fun h2 => ?_)
  · refine ExL.nil ?_
    refine Ex.cond_t rfl ?_
    refine Ex.skip ?_
    refine Ex.seq ?_
    refine Ex.block ?_
    refine Ex.region (ExL.pures 4 rfl ?_)
    refine ExL.free (fr_indexAddrF (Reads.old hs) encA_len rfl rfl rfl rfl rfl rfl (by omega)) rfl rfl rfl ?_
    refine ExL.free (fr_loadN rfl rfl rfl rfl rfl (by first | exact segN (Reads.old hs) encA_len rfl zA (by omega) | exact segF (Reads.old hs) encA_len rfl zA (by omega))) rfl rfl rfl ?_
    refine ExL.op rfl (op_ret rfl rfl rfl (c_toAct (s.getD k zA)) (fun _ _ => trivial) rfl rfl (fun x3 hx3 => ?_))
    refine ExL.free (fr_indexAddr (sz := 2) rfl rfl rfl rfl rfl rfl (by omega)) rfl rfl rfl ?_
    refine ExL.op rfl (op_storeRow (i := 0) rfl rfl rfl rfl rfl rfl rfl rfl (room encA_len (k := k) (part_lt (by omega) (by omega)) (by first | rfl | simp) rfl) (List.cons_ne_nil _ _) rfl ?_)
    refine ExL.nil ?_
    refine Ex.region (ExL.pures 1 rfl ?_)
    refine ExL.free (by first | exact fr_add64 rfl rfl rfl (by omega) | exact fr_add rfl rfl rfl) rfl rfl rfl ?_
    refine ExL.pures 1 rfl ?_
    refine ExL.nil ?_
    refine Hand.mk (k + 1) 1 [0] ⟨rfl, trivial⟩ ⟨rfl, rfl, rfl, trivial⟩ (pkR (part_put encA_len zA zA s k (by omega) (by simp) rfl)) rfl (by omega) (by omega)
  · refine ExL.nil ?_
    refine Ex.cond_f rfl ?_
    refine Ex.exit ?_
    refine Ex.regSeq (ExL.pures 2 rfl ?_)
    refine ExL.nil ?_
    refine Ex.ret ?_
    refine RetQ.mk _ rfl (.tmp rfl .nil) (rfl) [0] (pkR (by obtain rfl : k = s.length := (by omega); rw [part_all])) rfl (trivial)
theorem e_114 : Enters Try.prog 114 := Enters.of Try.func114 rfl
theorem c_eqAct (a b : VAct) : Ret Try.prog 114 [.agg (encA a).toArray, .agg (encA b).toArray] (fun w => True) (fun x : Unit => .bool (sameA a b)) (fun x => []) (fun x => True) := by
  refine Ret.of e_114 Try.func114 rfl Try.ntmps114 rfl rfl (fun w hpre => ?_)
  refine Ex.regSeq (ExL.pures 0 rfl ?_)
  refine ExL.op rfl (op_box rfl rfl rfl rfl rfl (fun b1 => ?_))
  refine ExL.op rfl (op_box rfl rfl rfl rfl rfl (fun b2 => ?_))
  refine ExL.pures 1 rfl ?_
  refine ExL.nil ?_
  refine Ex.seq ?_
  refine Ex.regSeq (ExL.pures 1 rfl ?_)
  refine ExL.free (fr_load rfl rfl rfl rfl (CellO.blk (i := 1) rfl rfl)) rfl rfl rfl ?_
  refine ExL.pures 1 rfl ?_
  refine ExL.free (fr_load rfl rfl rfl rfl (CellO.blk (i := 0) rfl rfl)) rfl rfl rfl ?_
  refine ExL.neq rfl rfl rfl rfl rfl rfl (fun h3 => ?_) (fun h3 => ?_)
  · refine ExL.nil ?_
    refine Ex.cond_t rfl ?_
    refine Ex.regSeq (ExL.pures 1 rfl ?_)
    refine ExL.nil ?_
    refine Ex.ret ?_
    refine RetQ.mk () rfl (.tmp rfl .nil) (tB (by first | rfl | (unfold sameA; first | exact dec_t (by simp_all) | exact dec_f (by simp_all) | exact decide_eq_decide.2 (by simp_all)))) [] (rfl) rfl (trivial)
  · refine ExL.nil ?_
    refine Ex.cond_f rfl ?_
    refine Ex.skip ?_
    refine Ex.seq ?_
    refine Ex.regSeq (ExL.pures 1 rfl ?_)
    refine ExL.free (fr_load rfl rfl rfl rfl (CellO.blk (i := 1) rfl rfl)) rfl rfl rfl ?_
    refine ExL.pures 1 rfl ?_
    refine ExL.free (fr_load rfl rfl rfl rfl (CellO.blk (i := 0) rfl rfl)) rfl rfl rfl ?_
    refine ExL.neq rfl rfl rfl rfl rfl rfl (fun h4 => ?_) (fun h4 => ?_)
    · refine ExL.nil ?_
      refine Ex.cond_t rfl ?_
      refine Ex.regSeq (ExL.pures 1 rfl ?_)
      refine ExL.nil ?_
      refine Ex.ret ?_
      refine RetQ.mk () rfl (.tmp rfl .nil) (tB (by first | rfl | (unfold sameA; first | exact dec_t (by simp_all) | exact dec_f (by simp_all) | exact decide_eq_decide.2 (by simp_all)))) [] (rfl) rfl (trivial)
    · refine ExL.nil ?_
      refine Ex.cond_f rfl ?_
      refine Ex.skip ?_
      refine Ex.regSeq (ExL.pures 1 rfl ?_)
      refine ExL.nil ?_
      refine Ex.ret ?_
      refine RetQ.mk () rfl (.tmp rfl .nil) (tB (by first | rfl | (unfold sameA; first | exact dec_t (by simp_all) | exact dec_f (by simp_all) | exact decide_eq_decide.2 (by simp_all)))) [] (rfl) rfl (trivial)
theorem e_46 : Enters Try.prog 46 := Enters.of Try.func46 rfl
theorem c_eqActS (s : List VAct) (As : Option Addr) (cs : Nat) (hls : s.length ≤ maxLen) (t : List VAct) (At : Option Addr) (ct : Nat) (hlt : t.length ≤ maxLen) : Ret Try.prog 46 [.slice As s.length cs, .slice At t.length ct] (fun w => Rd w As (s.flatMap encA) ∧ Rd w At (t.flatMap encA)) (fun x : Unit => .bool (allEq sameA zA s t)) (fun x => []) (fun x => True) := by
  refine Ret.of e_46 Try.func46 rfl Try.ntmps46 rfl rfl (fun w hpre => ?_)
  have hs := hpre.1.base
  have ht := hpre.2.base
  have hm0 : maxLen = 9223372036854775807 := rfl
  refine Ex.regSeq (ExL.pures 1 rfl ?_)
  refine ExL.nil ?_
  refine Ex.seq ?_
  refine Ex.regSeq (ExL.pures 4 rfl ?_)
  refine ExL.neq rfl rfl rfl rfl rfl rfl (fun h1 => ?_) (fun h1 => ?_)
  · refine ExL.nil ?_
    refine Ex.cond_t rfl ?_
    refine Ex.regSeq (ExL.pures 1 rfl ?_)
    refine ExL.nil ?_
    refine Ex.ret ?_
    refine RetQ.mk () rfl (.tmp rfl .nil) (tB (by first | exact ae_len (by omega) | exact ae_no k (by omega) (by assumption) | exact ae_yes (k := k) (by omega) (by omega) hall)) [] (rfl) rfl (trivial)
  · refine ExL.nil ?_
    refine Ex.cond_f rfl ?_
    refine Ex.skip ?_
    refine Ex.seq ?_
    refine Ex.regSeq (ExL.pures 1 rfl ?_)
    refine ExL.nil ?_
    refine Ex.block ?_
    refine Ex.loopK (X := Nat) (fun k => [(5, .int .i64 k)]) (fun k => []) (fun k => k ≤ s.length ∧ ∀ i, i < k → sameA (s.getD i zA) (t.getD i zA) = true) (fun k => s.length - k) 0 [(0, _), (1, _)] [] 0 [] ⟨rfl, trivial⟩ ⟨rfl, rfl, trivial⟩ (rfl) rfl ⟨Nat.zero_le _, fun i hi => by omega⟩ (fun k hI => ?_)
    have hI : k ≤ s.length ∧ ∀ i, i < k → sameA (s.getD i zA) (t.getD i zA) = true := hI
    obtain ⟨hk, hall⟩ := hI
    refine Ex.seq ?_
    refine Ex.regSeq (ExL.pures 3 rfl ?_)
    refine ExL.lss rfl rfl rfl rfl rfl rfl (fun h2 => ?_) (fun h2 => ?_)
    · refine ExL.nil ?_
      refine Ex.cond_t rfl ?_
      refine Ex.skip ?_
      refine Ex.seq ?_
      refine Ex.block ?_
      refine Ex.drawSeqM rfl ?_
      refine ExD.take (i := 0) rfl (by kernel_rfl) (pureVal_ok rfl) ((List.Sublist.refl _)) rfl rfl rfl ?_
      refine ExD.take (i := 1) rfl (by kernel_rfl) (pureVal_ok rfl) ((List.Sublist.refl _)) rfl rfl rfl ?_
      refine ExD.take (i := 2) rfl (by kernel_rfl) (fr_indexAddrF (Reads.old hs) encA_len rfl rfl rfl rfl rfl rfl (by omega)) ((List.Sublist.refl _)) rfl rfl rfl ?_
      refine ExD.take (i := 3) rfl (by kernel_rfl) (fr_loadN rfl rfl rfl rfl rfl (by first | exact segN (Reads.old hs) encA_len rfl zA (by omega) | exact segF (Reads.old hs) encA_len rfl zA (by omega))) ((List.Sublist.refl _)) rfl rfl rfl ?_
      refine ExD.take (i := 4) rfl (by kernel_rfl) (pureVal_ok rfl) ((List.Sublist.refl _)) rfl rfl rfl ?_
      refine ExD.take (i := 5) rfl (by kernel_rfl) (pureVal_ok rfl) ((List.Sublist.refl _)) rfl rfl rfl ?_
      refine ExD.take (i := 6) rfl (by kernel_rfl) (fr_indexAddrF (Reads.old ht) encA_len rfl rfl rfl rfl rfl rfl (by omega)) ((List.Sublist.refl _)) rfl rfl rfl ?_
      refine ExD.take (i := 7) rfl (by kernel_rfl) (fr_loadN rfl rfl rfl rfl rfl (by first | exact segN (Reads.old ht) encA_len rfl zA (by omega) | exact segF (Reads.old ht) encA_len rfl zA (by omega))) ((List.Sublist.refl _)) rfl rfl rfl ?_
      refine ExD.op (i := 8) rfl (by kernel_rfl) rfl (op_ret rfl rfl rfl (c_eqAct (s.getD k zA) (t.getD k zA)) (fun _ _ => trivial) rfl rfl (fun x3 hx3 => ⟨(List.Sublist.refl _), ?_⟩))
      refine ExD.take (i := 9) rfl (by kernel_rfl) (pureVal_ok rfl) ((List.Sublist.refl _)) rfl rfl rfl ?_
      refine ExD.done (by kernel_rfl) ?_
      refine Ex.cond rfl (fun hb4 => ?_) (fun hb4 => ?_)
      · replace hb4 := nb_t hb4
        refine Ex.regSeq (ExL.pures 1 rfl ?_)
        refine ExL.nil ?_
        refine Ex.ret ?_
        refine RetQ.mk () rfl (.tmp rfl .nil) (tB (by first | exact ae_len (by omega) | exact ae_no k (by omega) (by assumption) | exact ae_yes (k := k) (by omega) (by omega) hall)) [] (rfl) rfl (trivial)
      · replace hb4 := nb_f hb4
        refine Ex.skip ?_
        refine Ex.region (ExL.pures 1 rfl ?_)
        refine ExL.free (by first | exact fr_add64 rfl rfl rfl (by omega) | exact fr_add rfl rfl rfl) rfl rfl rfl ?_
        refine ExL.pures 1 rfl ?_
        refine ExL.nil ?_
        refine Hand.mk (k + 1) 0 [] ⟨rfl, trivial⟩ ⟨rfl, rfl, trivial⟩ (rfl) rfl (⟨by omega, all_snoc hall (by first | assumption | omega)⟩) (by omega)
    · refine ExL.nil ?_
      refine Ex.cond_f rfl ?_
      refine Ex.exit ?_
      refine Ex.regSeq (ExL.pures 1 rfl ?_)
      refine ExL.nil ?_
      refine Ex.ret ?_
      refine RetQ.mk () rfl (.tmp rfl .nil) (tB (by first | exact ae_len (by omega) | exact ae_no k (by omega) (by assumption) | exact ae_yes (k := k) (by omega) (by omega) hall)) [] (rfl) rfl (trivial)
theorem e_68 : Enters Try.prog 68 := Enters.of Try.func68 rfl
theorem c_szNoteS (s : List VNote) (As : Option Addr) (cs : Nat) (hls : s.length ≤ maxLen) (n : Int) (hn : 0 ≤ n ∧ n ≤ 1048576) : Ret Try.prog 68 [.slice As s.length cs, .int .i64 n] (fun w => True) (fun x : Int => .int .i64 x) (fun x => []) (fun x => x ≤ n ∧ (0 ≤ x → (s.length : Int) ≤ n)) := by
  refine Ret.of e_68 Try.func68 rfl Try.ntmps68 rfl rfl (fun w hpre => ?_)
  have hm0 : maxLen = 9223372036854775807 := rfl
  refine Ex.regSeq (ExL.pures 1 rfl ?_)
  refine ExL.nil ?_
  refine Ex.regSeq (ExL.pures 3 rfl ?_)
  refine ExL.free (by first | exact fr_sub64 rfl rfl rfl (by omega) | exact fr_sub rfl rfl rfl) rfl rfl rfl ?_
  refine ExL.pures 1 rfl ?_
  refine ExL.nil ?_
  refine Ex.seq ?_
  refine Ex.regSeq (ExL.pures 1 rfl ?_)
  refine ExL.lss rfl rfl rfl rfl rfl rfl (fun h1 => ?_) (fun h1 => ?_)
  · refine ExL.nil ?_
    refine Ex.cond_t rfl ?_
    refine Ex.regSeq (ExL.pures 1 rfl ?_)
    refine ExL.nil ?_
    refine Ex.ret ?_
    refine RetQ.mk _ rfl (.tmp rfl .nil) (rfl) [] (rfl) rfl (by first | omega | (simp; omega))
  · refine ExL.nil ?_
    refine Ex.cond_f rfl ?_
    refine Ex.skip ?_
    refine Ex.regSeq (ExL.pures 2 rfl ?_)
    refine ExL.nil ?_
    refine Ex.ret ?_
    refine RetQ.mk _ rfl (.tmp rfl .nil) (rfl) [] (rfl) rfl (by first | omega | (simp; omega))
theorem e_130 : Enters Try.prog 130 := Enters.of Try.func130 rfl
theorem c_toNote (a : VNote) : Ret Try.prog 130 [.agg (encN a).toArray] (fun w => True) (fun x : Unit => .agg (encN a).toArray) (fun x => []) (fun x => True) := by
  refine Ret.of e_130 Try.func130 rfl Try.ntmps130 rfl rfl (fun w hpre => ?_)
  refine Ex.regSeq (ExL.pures 0 rfl ?_)
  refine ExL.op rfl (op_box rfl rfl rfl rfl rfl (fun b1 => ?_))
  refine ExL.op rfl (op_alloc rfl rfl rfl rfl rfl (fun b2 => ?_))
  refine ExL.nil ?_
  refine Ex.regSeq (ExL.pures 0 rfl ?_)
  refine ExL.op rfl (op_alloc rfl rfl rfl rfl rfl (fun b3 => ?_))
  refine ExL.nil ?_
  refine Ex.regSeq (ExL.pures 1 rfl ?_)
  refine ExL.free (fr_loadN rfl rfl rfl rfl rfl (SegO.part (i := 2) 2 rfl)) rfl rfl rfl ?_
  refine ExL.op rfl (op_ret rfl rfl rfl (c_toAct a.act) (fun _ _ => trivial) rfl rfl (fun x4 hx4 => ?_))
  refine ExL.pures 1 rfl ?_
  refine ExL.op rfl (op_storeC (i := 0) rfl rfl rfl rfl rfl rfl rfl rfl rfl rfl ?_)
  refine ExL.nil ?_
  refine Ex.regSeq (ExL.pures 1 rfl ?_)
  refine ExL.free (fr_loadN rfl rfl rfl rfl rfl (SegO.part (i := 2) 8 rfl)) rfl rfl rfl ?_
  refine ExL.op rfl (op_ret rfl rfl rfl (c_toDigits a.shows) (fun _ _ => trivial) rfl rfl (fun x5 hx5 => ?_))
  refine ExL.pures 1 rfl ?_
  refine ExL.op rfl (op_storeC (i := 0) rfl rfl rfl rfl rfl rfl rfl rfl rfl rfl ?_)
  refine ExL.nil ?_
  refine Ex.regSeq (ExL.pures 1 rfl ?_)
  refine ExL.free (fr_load rfl rfl rfl rfl (CellO.blk (i := 2) rfl rfl)) rfl rfl rfl ?_
  refine ExL.pures 1 rfl ?_
  refine ExL.op rfl (op_storeC (i := 0) rfl rfl rfl rfl rfl rfl rfl rfl rfl rfl ?_)
  refine ExL.nil ?_
  refine Ex.regSeq (ExL.pures 0 rfl ?_)
  refine ExL.free (fr_loadN rfl rfl rfl rfl rfl (SegO.whole (i := 0) rfl)) rfl rfl rfl ?_
  refine ExL.op rfl (op_storeC (i := 1) rfl rfl rfl rfl rfl rfl rfl rfl rfl rfl ?_)
  refine ExL.nil ?_
  refine Ex.ret ?_
  refine RetQ.mk () rfl (.cell rfl (.many rfl rfl rfl (SegO.whole (i := 1) rfl)) .nil) (rfl) [] (rfl) rfl (trivial)
theorem e_70 : Enters Try.prog 70 := Enters.of Try.func70 rfl
theorem c_toNoteS (s : List VNote) (As : Option Addr) (cs : Nat) (hls : s.length ≤ 1048576) : Ret Try.prog 70 [.slice As s.length cs] (fun w => Rd w As (s.flatMap encN)) (fun x : Nat => .slice (some ⟨x, 0, none⟩) s.length s.length) (fun x => [.row (.slice (some ⟨x, 0, none⟩) s.length s.length) 109 11 s.length (s.flatMap encN)]) (fun x => True) := by
  refine Ret.of e_70 Try.func70 rfl Try.ntmps70 rfl rfl (fun w hpre => ?_)
  have hs := hpre.base
  refine Ex.regSeq (ExL.pures 1 rfl ?_)
  refine ExL.nil ?_
  refine Ex.regSeq (ExL.pures 2 rfl ?_)
  refine ExL.op rfl (op_makeSlice (sz := 32) rfl rfl rfl rfl rfl rfl rfl rfl (⟨by omega, by unfold maxLen; omega⟩) rfl rfl (fun r1 => ?_))
  refine ExL.pures 1 rfl ?_
  refine ExL.nil ?_
  refine Ex.seq ?_
  refine Ex.regSeq (ExL.pures 1 rfl ?_)
  refine ExL.nil ?_
  refine Ex.block ?_
  refine Ex.loopK (X := Nat) (fun k => [(4, .int .i64 k)]) (fun k => [.row (.slice (some ⟨r1, 0, none⟩) s.length s.length) 109 11 s.length ((Sx.part zN s k).flatMap encN)]) (fun k => k ≤ s.length) (fun k => s.length - k) 0 [(0, _), (2, _), (3, _)] [] 1 [0] ⟨rfl, trivial⟩ ⟨rfl, rfl, rfl, trivial⟩ (pkR (zpart encN_len zN rfl s rfl)) rfl (Nat.zero_le _) (fun k hI => ?_)
  have hI : k ≤ s.length := hI
  refine Ex.seq ?_
  refine Ex.regSeq (ExL.pures 3 rfl ?_)
  refine ExL.lss rfl rfl rfl rfl rfl rfl (fun h2 => ?_) (fun h2 => ?_)
  · refine ExL.nil ?_
    refine Ex.cond_t rfl ?_
    refine Ex.skip ?_
    refine Ex.seq ?_
    refine Ex.block ?_
    refine Ex.region (ExL.pures 4 rfl ?_)
    refine ExL.free (fr_indexAddrF (Reads.old hs) encN_len rfl rfl rfl rfl rfl rfl (by omega)) rfl rfl rfl ?_
    refine ExL.free (fr_loadN rfl rfl rfl rfl rfl (by first | exact segN (Reads.old hs) encN_len rfl zN (by omega) | exact segF (Reads.old hs) encN_len rfl zN (by omega))) rfl rfl rfl ?_
    refine ExL.op rfl (op_ret rfl rfl rfl (c_toNote (s.getD k zN)) (fun _ _ => trivial) rfl rfl (fun x3 hx3 => ?_))
    refine ExL.free (fr_indexAddr (sz := 11) rfl rfl rfl rfl rfl rfl (by omega)) rfl rfl rfl ?_
    refine ExL.op rfl (op_storeRow (i := 0) rfl rfl rfl rfl rfl rfl rfl rfl (room encN_len (k := k) (part_lt (by omega) (by omega)) (by first | rfl | simp) rfl) (List.cons_ne_nil _ _) rfl ?_)
    refine ExL.nil ?_
    refine Ex.region (ExL.pures 1 rfl ?_)
    refine ExL.free (by first | exact fr_add64 rfl rfl rfl (by omega) | exact fr_add rfl rfl rfl) rfl rfl rfl ?_
    refine ExL.pures 1 rfl ?_
    refine ExL.nil ?_
    refine Hand.mk (k + 1) 1 [0] ⟨rfl, trivial⟩ ⟨rfl, rfl, rfl, trivial⟩ (pkR (part_put encN_len zN zN s k (by omega) (by simp) rfl)) rfl (by omega) (by omega)
  · refine ExL.nil ?_
    refine Ex.cond_f rfl ?_
    refine Ex.exit ?_
    refine Ex.regSeq (ExL.pures 2 rfl ?_)
    refine ExL.nil ?_
    refine Ex.ret ?_
    refine RetQ.mk _ rfl (.tmp rfl .nil) (rfl) [0] (pkR (by obtain rfl : k = s.length := (by omega); rw [part_all])) rfl (trivial)
theorem e_131 : Enters Try.prog 131 := Enters.of Try.func131 rfl
theorem c_eqNote (a b : VNote) : Ret Try.prog 131 [.agg (encN a).toArray, .agg (encN b).toArray] (fun w => True) (fun x : Unit => .bool (sameN a b)) (fun x => []) (fun x => True) := by
  refine Ret.of e_131 Try.func131 rfl Try.ntmps131 rfl rfl (fun w hpre => ?_)
  refine Ex.regSeq (ExL.pures 0 rfl ?_)
  refine ExL.op rfl (op_box rfl rfl rfl rfl rfl (fun b1 => ?_))
  refine ExL.op rfl (op_box rfl rfl rfl rfl rfl (fun b2 => ?_))
  refine ExL.pures 1 rfl ?_
  refine ExL.nil ?_
  refine Ex.seq ?_
  refine Ex.regSeq (ExL.pures 1 rfl ?_)
  refine ExL.free (fr_loadN rfl rfl rfl rfl rfl (SegO.part (i := 1) 2 rfl)) rfl rfl rfl ?_
  refine ExL.pures 1 rfl ?_
  refine ExL.free (fr_loadN rfl rfl rfl rfl rfl (SegO.part (i := 0) 2 rfl)) rfl rfl rfl ?_
  refine ExL.op rfl (op_ret rfl rfl rfl (c_eqAct a.act b.act) (fun _ _ => trivial) rfl rfl (fun x3 hx3 => ?_))
  refine ExL.pures 1 rfl ?_
  refine ExL.nil ?_
  refine Ex.cond rfl (fun hb4 => ?_) (fun hb4 => ?_)
  · replace hb4 := nb_t hb4
    refine Ex.regSeq (ExL.pures 1 rfl ?_)
    refine ExL.nil ?_
    refine Ex.ret ?_
    refine RetQ.mk () rfl (.tmp rfl .nil) (tB (by first | rfl | (unfold sameN; first | exact dec_t (by simp_all) | exact dec_f (by simp_all) | exact decide_eq_decide.2 (by simp_all)))) [] (rfl) rfl (trivial)
  · replace hb4 := nb_f hb4
    refine Ex.skip ?_
    refine Ex.seq ?_
    refine Ex.regSeq (ExL.pures 1 rfl ?_)
    refine ExL.free (fr_loadN rfl rfl rfl rfl rfl (SegO.part (i := 1) 8 rfl)) rfl rfl rfl ?_
    refine ExL.pures 1 rfl ?_
    refine ExL.free (fr_loadN rfl rfl rfl rfl rfl (SegO.part (i := 0) 8 rfl)) rfl rfl rfl ?_
    refine ExL.op rfl (op_ret rfl rfl rfl (c_eqDigits a.shows b.shows) (fun _ _ => trivial) rfl rfl (fun x5 hx5 => ?_))
    refine ExL.pures 1 rfl ?_
    refine ExL.nil ?_
    refine Ex.cond rfl (fun hb6 => ?_) (fun hb6 => ?_)
    · replace hb6 := nd_t hb6
      refine Ex.regSeq (ExL.pures 1 rfl ?_)
      refine ExL.nil ?_
      refine Ex.ret ?_
      refine RetQ.mk () rfl (.tmp rfl .nil) (tB (by first | rfl | (unfold sameN; first | exact dec_t (by simp_all) | exact dec_f (by simp_all) | exact decide_eq_decide.2 (by simp_all)))) [] (rfl) rfl (trivial)
    · replace hb6 := nd_f hb6
      refine Ex.skip ?_
      refine Ex.seq ?_
      refine Ex.regSeq (ExL.pures 1 rfl ?_)
      refine ExL.free (fr_load rfl rfl rfl rfl (CellO.blk (i := 1) rfl rfl)) rfl rfl rfl ?_
      refine ExL.pures 1 rfl ?_
      refine ExL.free (fr_load rfl rfl rfl rfl (CellO.blk (i := 0) rfl rfl)) rfl rfl rfl ?_
      refine ExL.neq rfl rfl rfl rfl rfl rfl (fun h7 => ?_) (fun h7 => ?_)
      · refine ExL.nil ?_
        refine Ex.cond_t rfl ?_
        refine Ex.regSeq (ExL.pures 1 rfl ?_)
        refine ExL.nil ?_
        refine Ex.ret ?_
        refine RetQ.mk () rfl (.tmp rfl .nil) (tB (by first | rfl | (unfold sameN; first | exact dec_t (by simp_all) | exact dec_f (by simp_all) | exact decide_eq_decide.2 (by simp_all)))) [] (rfl) rfl (trivial)
      · refine ExL.nil ?_
        refine Ex.cond_f rfl ?_
        refine Ex.skip ?_
        refine Ex.regSeq (ExL.pures 1 rfl ?_)
        refine ExL.nil ?_
        refine Ex.ret ?_
        refine RetQ.mk () rfl (.tmp rfl .nil) (tB (by first | rfl | (unfold sameN; first | exact dec_t (by simp_all) | exact dec_f (by simp_all) | exact decide_eq_decide.2 (by simp_all)))) [] (rfl) rfl (trivial)
theorem e_72 : Enters Try.prog 72 := Enters.of Try.func72 rfl
theorem c_eqNoteS (s : List VNote) (As : Option Addr) (cs : Nat) (hls : s.length ≤ maxLen) (t : List VNote) (At : Option Addr) (ct : Nat) (hlt : t.length ≤ maxLen) : Ret Try.prog 72 [.slice As s.length cs, .slice At t.length ct] (fun w => Rd w As (s.flatMap encN) ∧ Rd w At (t.flatMap encN)) (fun x : Unit => .bool (allEq sameN zN s t)) (fun x => []) (fun x => True) := by
  refine Ret.of e_72 Try.func72 rfl Try.ntmps72 rfl rfl (fun w hpre => ?_)
  have hs := hpre.1.base
  have ht := hpre.2.base
  have hm0 : maxLen = 9223372036854775807 := rfl
  refine Ex.regSeq (ExL.pures 1 rfl ?_)
  refine ExL.nil ?_
  refine Ex.seq ?_
  refine Ex.regSeq (ExL.pures 4 rfl ?_)
  refine ExL.neq rfl rfl rfl rfl rfl rfl (fun h1 => ?_) (fun h1 => ?_)
  · refine ExL.nil ?_
    refine Ex.cond_t rfl ?_
    refine Ex.regSeq (ExL.pures 1 rfl ?_)
    refine ExL.nil ?_
    refine Ex.ret ?_
    refine RetQ.mk () rfl (.tmp rfl .nil) (tB (by first | exact ae_len (by omega) | exact ae_no k (by omega) (by assumption) | exact ae_yes (k := k) (by omega) (by omega) hall)) [] (rfl) rfl (trivial)
  · refine ExL.nil ?_
    refine Ex.cond_f rfl ?_
    refine Ex.skip ?_
    refine Ex.seq ?_
    refine Ex.regSeq (ExL.pures 1 rfl ?_)
    refine ExL.nil ?_
    refine Ex.block ?_
    refine Ex.loopK (X := Nat) (fun k => [(5, .int .i64 k)]) (fun k => []) (fun k => k ≤ s.length ∧ ∀ i, i < k → sameN (s.getD i zN) (t.getD i zN) = true) (fun k => s.length - k) 0 [(0, _), (1, _)] [] 0 [] ⟨rfl, trivial⟩ ⟨rfl, rfl, trivial⟩ (rfl) rfl ⟨Nat.zero_le _, fun i hi => by omega⟩ (fun k hI => ?_)
    have hI : k ≤ s.length ∧ ∀ i, i < k → sameN (s.getD i zN) (t.getD i zN) = true := hI
    obtain ⟨hk, hall⟩ := hI
    refine Ex.seq ?_
    refine Ex.regSeq (ExL.pures 3 rfl ?_)
    refine ExL.lss rfl rfl rfl rfl rfl rfl (fun h2 => ?_) (fun h2 => ?_)
    · refine ExL.nil ?_
      refine Ex.cond_t rfl ?_
      refine Ex.skip ?_
      refine Ex.seq ?_
      refine Ex.block ?_
      refine Ex.drawSeqM rfl ?_
      refine ExD.take (i := 0) rfl (by kernel_rfl) (pureVal_ok rfl) ((List.Sublist.refl _)) rfl rfl rfl ?_
      refine ExD.take (i := 1) rfl (by kernel_rfl) (pureVal_ok rfl) ((List.Sublist.refl _)) rfl rfl rfl ?_
      refine ExD.take (i := 2) rfl (by kernel_rfl) (fr_indexAddrF (Reads.old hs) encN_len rfl rfl rfl rfl rfl rfl (by omega)) ((List.Sublist.refl _)) rfl rfl rfl ?_
      refine ExD.take (i := 3) rfl (by kernel_rfl) (fr_loadN rfl rfl rfl rfl rfl (by first | exact segN (Reads.old hs) encN_len rfl zN (by omega) | exact segF (Reads.old hs) encN_len rfl zN (by omega))) ((List.Sublist.refl _)) rfl rfl rfl ?_
      refine ExD.take (i := 4) rfl (by kernel_rfl) (pureVal_ok rfl) ((List.Sublist.refl _)) rfl rfl rfl ?_
      refine ExD.take (i := 5) rfl (by kernel_rfl) (pureVal_ok rfl) ((List.Sublist.refl _)) rfl rfl rfl ?_
      refine ExD.take (i := 6) rfl (by kernel_rfl) (fr_indexAddrF (Reads.old ht) encN_len rfl rfl rfl rfl rfl rfl (by omega)) ((List.Sublist.refl _)) rfl rfl rfl ?_
      refine ExD.take (i := 7) rfl (by kernel_rfl) (fr_loadN rfl rfl rfl rfl rfl (by first | exact segN (Reads.old ht) encN_len rfl zN (by omega) | exact segF (Reads.old ht) encN_len rfl zN (by omega))) ((List.Sublist.refl _)) rfl rfl rfl ?_
      refine ExD.op (i := 8) rfl (by kernel_rfl) rfl (op_ret rfl rfl rfl (c_eqNote (s.getD k zN) (t.getD k zN)) (fun _ _ => trivial) rfl rfl (fun x3 hx3 => ⟨(List.Sublist.refl _), ?_⟩))
      refine ExD.take (i := 9) rfl (by kernel_rfl) (pureVal_ok rfl) ((List.Sublist.refl _)) rfl rfl rfl ?_
      refine ExD.done (by kernel_rfl) ?_
      refine Ex.cond rfl (fun hb4 => ?_) (fun hb4 => ?_)
      · replace hb4 := nb_t hb4
        refine Ex.regSeq (ExL.pures 1 rfl ?_)
        refine ExL.nil ?_
        refine Ex.ret ?_
        refine RetQ.mk () rfl (.tmp rfl .nil) (tB (by first | exact ae_len (by omega) | exact ae_no k (by omega) (by assumption) | exact ae_yes (k := k) (by omega) (by omega) hall)) [] (rfl) rfl (trivial)
      · replace hb4 := nb_f hb4
        refine Ex.skip ?_
        refine Ex.region (ExL.pures 1 rfl ?_)
        refine ExL.free (by first | exact fr_add64 rfl rfl rfl (by omega) | exact fr_add rfl rfl rfl) rfl rfl rfl ?_
        refine ExL.pures 1 rfl ?_
        refine ExL.nil ?_
        refine Hand.mk (k + 1) 0 [] ⟨rfl, trivial⟩ ⟨rfl, rfl, trivial⟩ (rfl) rfl (⟨by omega, all_snoc hall (by first | assumption | omega)⟩) (by omega)
    · refine ExL.nil ?_
      refine Ex.cond_f rfl ?_
      refine Ex.exit ?_
      refine Ex.regSeq (ExL.pures 1 rfl ?_)
      refine ExL.nil ?_
      refine Ex.ret ?_
      refine RetQ.mk () rfl (.tmp rfl .nil) (tB (by first | exact ae_len (by omega) | exact ae_no k (by omega) (by assumption) | exact ae_yes (k := k) (by omega) (by omega) hall)) [] (rfl) rfl (trivial)
end Go.Proofs.Ytjopackngkfdhaa
