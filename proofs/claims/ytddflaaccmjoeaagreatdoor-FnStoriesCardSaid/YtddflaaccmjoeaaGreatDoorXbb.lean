/- Several texts, one behind the other. -/
import Derived.Test.YtddflaaccmjoeaaGreatDoorProg
import Derived.Lib.ItoaNum
import Derived.Lib.LaidTab
import Derived.Sort.Grow
import Derived.Deep.Draws
import Derived.Lib.Join
import Derived.Lib.ParseIntB
import Derived.Lib.Split
import Derived.Laws.Strings
import Derived.Laws.Strings2
import Derived.Laws.Strings3
import Derived.Laws.Slices
import Derived.Lib.SplitLaws
import Derived.Lib.ParseIntBMem
import Derived.Lib.ParseIntBTie
import Derived.Stop.IfaceNil
import Derived.Handed
import Derived.HandedShaped
import Derived.Test.YtddflaaccmjoeaaGreatDoorXaa
import Derived.Test.YtddflaaccmjoeaaGreatDoorXab
import Derived.Test.YtddflaaccmjoeaaGreatDoorXba
/- What these functions of the program hand back, each proved by walking its operations. -/
set_option linter.unusedVariables false
set_option linter.unusedSimpArgs false
set_option maxRecDepth 4000
namespace Go.Proofs.YtddflaaccmjoeaaGreatDoor
open Go Go.Sx Go.RowKit Go.W Go.Proofs
attribute [local irreducible] Ex ExL ExD Op1 Free RetQ MutQ Reads CellO SegO LoadsAs
theorem e_31 : Enters Tryz.prog 31 := Enters.of Tryz.func31 rfl
theorem c_best (fit : Nat → Nat → Bool) (n : Nat) (hn : n ≤ 40) (K : List (VX Bool)) (hKl : K.length = n) (hCK : CanK fit n K) (b o : Nat) (As Al : Option Addr) (ns cs cl : Nat) (wo : Int) : Ret Tryz.prog 31 [.pointer (some ⟨b, 0, none⟩), .int .i64 wo] (fun w => Rd w (some ⟨b, 0, none⟩) [.slice As ns cs, .slice Al n cl, .slice (some ⟨o, 0, none⟩) n n] ∧ Rd w (some ⟨o, 0, none⟩) (K.flatMap encX) ∧ ∀ k, k < K.length → Rd w (K.getD k zX).A ((K.getD k zX).xs.flatMap eB)) (fun x : VPl × List Rw => .agg (encPl x.1).toArray) (fun x => [.pile x.2]) (fun x => x.1.t = (btT fit n wo n).2) := by
  refine Ret.of e_31 Tryz.func31 rfl Tryz.ntmps31 rfl rfl (fun w hpre => ?_)
  have hd := hpre.1.base
  have hc := hpre.2.1.base
  have hcr := fun k hk => (hpre.2.2 k hk).base
  have hKn := hKl
  have hm0 : maxLen = 9223372036854775807 := rfl
  refine Ex.regSeq (ExL.pures 0 rfl ?_)
  refine ExL.op rfl (op_alloc rfl rfl rfl rfl rfl (fun b1 => ?_))
  refine ExL.nil ?_
  refine Ex.regSeq (ExL.pures 3 rfl ?_)
  refine ExL.free (fr_load rfl rfl rfl rfl (CellO.at 1 (Reads.old hd) rfl)) rfl rfl rfl ?_
  refine ExL.pures 2 rfl ?_
  refine ExL.nil ?_
  refine Ex.regSeq (ExL.pures 1 rfl ?_)
  refine ExL.op rfl (op_makeSlice (sz := 40) rfl rfl rfl rfl rfl rfl rfl rfl (⟨by omega, by unfold maxLen; omega⟩) rfl rfl (fun r2 => ?_))
  refine ExL.free (fr_build rfl rfl rfl rfl) rfl rfl rfl ?_
  refine ExL.op rfl (op_alloc rfl rfl rfl rfl rfl (fun b3 => ?_))
  refine ExL.pures 1 rfl ?_
  refine ExL.op rfl (op_storeC (i := 0) rfl rfl rfl rfl rfl rfl rfl rfl rfl rfl ?_)
  refine ExL.nil ?_
  refine Ex.regSeq (ExL.pures 1 rfl ?_)
  refine ExL.nil ?_
  refine Ex.seq ?_
  refine Ex.pile0 ?_
  refine Ex.regSeq (ExL.pures 1 rfl ?_)
  refine ExL.free (by first | exact fr_sub64 rfl rfl rfl (by omega) | exact fr_sub rfl rfl rfl) rfl rfl rfl ?_
  refine ExL.pures 1 rfl ?_
  refine ExL.nil ?_
  refine Ex.block ?_
  refine Ex.loopK (X := BSt) (fun q => [(8, .bool (btT fit n wo q.d).1), (9, .int .i64 ((n : Int) - 1 - q.d))]) (fun q => [.row (.slice (some ⟨r2, 0, none⟩) n n) 61 3 n (q.Q.flatMap encPl), .pile q.P, .blk b3 (encPl q.o) 61]) (fun q => BI fit n wo 2 q.d q.Q q.P q.o) (fun q => n - q.d) ⟨0, List.replicate n zPl, [], zPl⟩ [(0, _), (1, _), (4, _), (5, _), (6, _), (7, _)] [_] 4 [2, 0, 1, 3] ⟨rfl, agI (by first | omega | (dsimp only; omega)), trivial⟩ ⟨rfl, rfl, rfl, rfl, rfl, rfl, trivial⟩ (pkR (pl_zero rfl)) rfl (bi_0 _ _ _ _) (fun q hI => ?_)
  have hI : BI fit n wo 2 q.d q.Q q.P q.o := hI
  have hdn := hI.dn
  have hQl := hI.len
  refine Ex.seq ?_
  refine Ex.regSeq (ExL.pures 1 rfl ?_)
  refine ExL.geq rfl rfl rfl rfl rfl rfl (fun h4 => ?_) (fun h4 => ?_)
  · refine ExL.nil ?_
    refine Ex.cond_t rfl ?_
    refine Ex.skip ?_
    refine Ex.seq ?_
    refine Ex.block ?_
    have hdl : q.d < n := by omega
    rw [show (n : Int) - 1 - q.d = (((n - 1 - q.d) : Nat) : Int) by omega]
    refine Ex.seq ?_
    refine Ex.regSeq (ExL.pures 2 rfl ?_)
    refine ExL.eql rfl rfl rfl rfl rfl rfl (fun h5 => ?_) (fun h5 => ?_)
    · refine ExL.nil ?_
      refine Ex.cond_t rfl ?_
      refine Ex.exit ?_
      refine Ex.region (ExL.pures 1 rfl ?_)
      refine ExL.free (by first | exact fr_sub64 rfl rfl rfl (by omega) | exact fr_sub rfl rfl rfl) rfl rfl rfl ?_
      refine ExL.pures 1 rfl ?_
      refine ExL.nil ?_
      refine Hand.mk ((⟨q.d + 1, q.Q, q.P, q.o⟩ : BSt)) 4 [0, 1, 2, 3] ⟨agB (by rw [btT, if_pos (by omega)]), agI (by first | omega | (dsimp only; omega)), trivial⟩ ⟨rfl, rfl, rfl, rfl, rfl, rfl, trivial⟩ (rfl) rfl (hI.skip hdl (by omega)) (by first | omega | (dsimp only; omega))
    · refine ExL.nil ?_
      refine Ex.cond_f rfl ?_
      refine Ex.skip ?_
      have hwo : ¬ (((n - 1 - q.d) : Nat) : Int) = wo := by omega
      refine Ex.regSeq (ExL.pures 2 rfl ?_)
      refine ExL.free (fr_build (cells := encPl zPl) rfl rfl rfl (by kernel_rfl)) rfl rfl rfl ?_
      refine ExL.pures 2 rfl ?_
      refine ExL.free (by first | exact fr_sub64 rfl rfl rfl (by omega) | exact fr_sub rfl rfl rfl) rfl rfl rfl ?_
      refine ExL.pures 1 rfl ?_
      refine ExL.free (by first | exact fr_sub64 rfl rfl rfl (by omega) | exact fr_sub rfl rfl rfl) rfl rfl rfl ?_
      refine ExL.op rfl (op_ret rfl rfl rfl (c_from zPl (by first | assumption | exact (fun _ => ⟨rfl, rfl⟩) | exact OkPl.none hcand.2) (by first | omega | decide) (by first | omega | decide) _ _ (by omega) _ (by first | omega | exact brk_bd _)) (fun w hw => rd_nil w) rfl rfl (fun x6 hx6 => ?_))
      refine ExL.free (fr_indexAddr (sz := 3) rfl rfl rfl rfl rfl rfl (by omega)) rfl rfl rfl ?_
      refine ExL.op rfl (op_storeRowF (i := 1) rfl rfl rfl rfl rfl rfl rfl rfl (room encPl_len (k := (n - 1 - q.d)) (by omega) (by simp) rfl) (List.cons_ne_nil _ _) rfl (pl_put (i := (n - 1 - q.d)) (⟨zPl.cost + ((n - 1) - ↑(n - 1 - q.d)) * 1 + 0 * 2, zPl.breaks + 0, x6.1, x6.2, ↑(n - 1 - q.d) :: zPl.xs⟩ : VPl) (by omega) (by simp) rfl) ?_)
      refine ExL.nil ?_
      refine Ex.seq ?_
      rw [show (n : Int) - 1 - (((n - 1 - q.d) : Nat) : Int) = (q.d : Int) by omega]
      refine Ex.conv (layEnd (perm_lt (i := 0) (j := 2) rfl rfl rfl)) ?_
      have hst := hI.start hdl (⟨zPl.cost + (q.d : Int) * 1 + 0 * 2, zPl.breaks + 0, x6.1, x6.2, (((n - 1 - q.d) : Nat) : Int) :: zPl.xs⟩ : VPl) rfl hx6
      refine Ex.regSeq (ExL.pures 1 rfl ?_)
      refine ExL.free (by first | exact fr_add64 rfl rfl rfl (by omega) | exact fr_add rfl rfl rfl) rfl rfl rfl ?_
      refine ExL.pures 1 rfl ?_
      refine ExL.nil ?_
      refine Ex.block ?_
      refine Ex.loopK (X := ISt) (fun r => [(10, .int .i64 (((n - q.d + r.m) : Nat) : Int))]) (fun r => [.row (.slice (some ⟨r2, 0, none⟩) n n) 61 3 n (r.Q.flatMap encPl), .pile r.P]) (fun r => II fit n wo 2 q.d r.m r.Q r.P q.o) (fun r => q.d - r.m) ⟨0, q.Q.set (n - 1 - q.d) (⟨zPl.cost + (q.d : Int) * 1 + 0 * 2, zPl.breaks + 0, x6.1, x6.2, (((n - 1 - q.d) : Nat) : Int) :: zPl.xs⟩ : VPl), q.P ++ [rowPl 2 (⟨zPl.cost + (q.d : Int) * 1 + 0 * 2, zPl.breaks + 0, x6.1, x6.2, (((n - 1 - q.d) : Nat) : Int) :: zPl.xs⟩ : VPl)]⟩ [(0, _), (1, _), (4, _), (5, _), (6, _), (7, _), (8, _), (9, _)] [_, _] 4 [1, 0, 2, 3] ⟨agI (by first | omega | (dsimp only; omega)), trivial⟩ ⟨rfl, rfl, rfl, rfl, rfl, rfl, rfl, rfl, trivial⟩ (rfl) rfl hst (fun r hI => ?_)
      have hI : II fit n wo 2 q.d r.m r.Q r.P q.o := hI
      have hmd := hI.mn
      have hRl := hI.len
      refine Ex.seq ?_
      refine Ex.regSeq (ExL.pures 2 rfl ?_)
      refine ExL.lss rfl rfl rfl rfl rfl rfl (fun h7 => ?_) (fun h7 => ?_)
      · refine ExL.nil ?_
        refine Ex.cond_t rfl ?_
        refine Ex.skip ?_
        refine Ex.seq ?_
        refine Ex.block ?_
        refine Ex.seq ?_
        refine Ex.regSeq (ExL.pures 2 rfl ?_)
        refine ExL.eql rfl rfl rfl rfl rfl rfl (fun h8 => ?_) (fun h8 => ?_)
        · refine ExL.nil ?_
          refine Ex.cond_t rfl ?_
          refine Ex.exit ?_
          refine Ex.region (ExL.pures 1 rfl ?_)
          refine ExL.free (by first | exact fr_add64 rfl rfl rfl (by omega) | exact fr_add rfl rfl rfl) rfl rfl rfl ?_
          refine ExL.pures 1 rfl ?_
          refine ExL.nil ?_
          refine Hand.mk ((⟨r.m + 1, r.Q, r.P⟩ : ISt)) 4 [0, 1, 2, 3] ⟨agI (by first | omega | (dsimp only; omega)), trivial⟩ ⟨rfl, rfl, rfl, rfl, rfl, rfl, rfl, rfl, trivial⟩ (rfl) rfl (hI.skip (by omega) (by omega)) (by first | omega | (dsimp only; omega))
        · refine ExL.nil ?_
          refine Ex.cond_f rfl ?_
          refine Ex.skip ?_
          have hcand := hI.cand (by omega)
          have hcb := hI.cbd (by omega)
          obtain ⟨hxl, hbe⟩ := canK_bool hCK (i := (n - 1 - q.d)) (j := (n - q.d + r.m)) (by omega) (by omega) (by omega)
          have hib := hI.ibd
          have hbb := brk_bd (fit (n - 1 - q.d) (n - q.d + r.m))
          refine Ex.drawSeqM rfl ?_
          refine ExD.take (i := 0) rfl (by kernel_rfl) (pureVal_ok rfl) ((List.Sublist.refl _)) rfl rfl rfl ?_
          refine ExD.take (i := 1) rfl (by kernel_rfl) (pureVal_ok rfl) ((List.Sublist.refl _)) rfl rfl rfl ?_
          refine ExD.take (i := 2) rfl (by kernel_rfl) (fr_indexAddr (sz := 3) rfl rfl rfl rfl rfl rfl (by omega)) ((List.Sublist.refl _)) rfl rfl rfl ?_
          refine ExD.take (i := 3) rfl (by kernel_rfl) (fr_loadN rfl rfl rfl rfl rfl (segJ ((n - q.d + r.m)) (Reads.row (i := 0) rfl) encPl_len rfl zPl (by omega) (by omega))) ((List.Sublist.refl _)) rfl rfl rfl ?_
          refine ExD.take (i := 4) rfl (by kernel_rfl) (pureVal_ok rfl) ((List.Sublist.refl _)) rfl rfl rfl ?_
          refine ExD.take (i := 5) rfl (by kernel_rfl) (pureVal_ok rfl) ((List.Sublist.refl _)) rfl rfl rfl ?_
          refine ExD.take (i := 6) rfl (by kernel_rfl) (pureVal_ok rfl) ((List.Sublist.refl _)) rfl rfl rfl ?_
          refine ExD.take (i := 7) rfl (by kernel_rfl) (by first | exact fr_sub64 rfl rfl rfl (by omega) | exact fr_sub rfl rfl rfl) ((List.Sublist.refl _)) rfl rfl rfl ?_
          refine ExD.take (i := 8) rfl (by kernel_rfl) (by first | exact fr_sub64 rfl rfl rfl (by omega) | exact fr_sub rfl rfl rfl) ((List.Sublist.refl _)) rfl rfl rfl ?_
          refine ExD.take (i := 9) rfl (by kernel_rfl) (pureVal_ok rfl) ((List.Sublist.refl _)) rfl rfl rfl ?_
          refine ExD.take (i := 10) rfl (by kernel_rfl) (pureVal_ok rfl) ((List.Sublist.refl _)) rfl rfl rfl ?_
          refine ExD.take (i := 11) rfl (by kernel_rfl) (pureVal_ok rfl) ((List.Sublist.refl _)) rfl rfl rfl ?_
          refine ExD.take (i := 12) rfl (by kernel_rfl) (fr_load rfl rfl rfl rfl (CellO.at 2 (Reads.old hd) rfl)) ((List.Sublist.refl _)) rfl rfl rfl ?_
          refine ExD.take (i := 13) rfl (by kernel_rfl) (pureVal_ok rfl) ((List.Sublist.refl _)) rfl rfl rfl ?_
          refine ExD.take (i := 14) rfl (by kernel_rfl) (fr_indexAddrE (sz := 1) hKl (Reads.old hc) encX_len rfl rfl rfl rfl rfl rfl (by omega)) ((List.Sublist.refl _)) rfl rfl rfl ?_
          refine ExD.take (i := 15) rfl (by kernel_rfl) (fr_load rfl rfl rfl rfl (cellJ (i := ↑(n - 1 - q.d)) ((n - 1 - q.d)) (Reads.old hc) encX_len zX 0 rfl (by omega) (by omega) rfl)) ((List.Sublist.refl _)) rfl rfl rfl ?_
          refine ExD.take (i := 16) rfl (by kernel_rfl) (pureVal_ok rfl) ((List.Sublist.refl _)) rfl rfl rfl ?_
          refine ExD.take (i := 17) rfl (by kernel_rfl) (fr_indexAddrF (Reads.old (hcr (n - 1 - q.d) (by omega))) eB_len rfl rfl rfl rfl rfl rfl (by omega)) ((List.Sublist.refl _)) rfl rfl rfl ?_
          refine ExD.take (i := 18) rfl (by kernel_rfl) (fr_load rfl rfl rfl rfl (cellJ (i := ↑(n - q.d + r.m)) ((n - q.d + r.m)) (Reads.old (hcr (n - 1 - q.d) (by omega))) eB_len false 0 rfl (by omega) (by omega) rfl)) ((List.Sublist.refl _)) rfl rfl rfl ?_
          refine ExDF.start 21 rfl (Alc.of rfl rfl rfl rfl rfl) ?_
          refine ExDF.step (i := 19) rfl rfl (by kernel_rfl) (by kernel_rfl) rfl rfl rfl (fun _ => rfl) rfl (List.Sublist.refl _) (Alc.of rfl rfl rfl rfl rfl) (fun K' hK => op_ret rfl rfl rfl (c_oneUnless _) (fun _ _ => trivial) rfl rfl (fun x11 hx11 => hK x11 hx11)) (fun b9 K' hK => op_ret rfl rfl rfl (c_oneUnless _) (fun _ _ => trivial) rfl rfl (fun x10 hx10 => hK x10 hx10)) (fun x11 hx11 => ?_)
          refine ExDF.step (i := 20) rfl rfl (by kernel_rfl) (by kernel_rfl) rfl rfl rfl (fun _ => rfl) rfl (List.Sublist.refl _) (Alc.of rfl rfl rfl rfl rfl) (fun K' hK => op_ret rfl rfl rfl (c_from (r.Q.getD (n - q.d + r.m) zPl) (by first | assumption | exact (fun _ => ⟨rfl, rfl⟩) | exact OkPl.none hcand.2) (by first | omega | decide) (by first | omega | decide) _ _ (by omega) _ (by first | omega | exact brk_bd _)) (fun w hw => Reads.get (readsPl (i := 1) rfl hcand.2) w hw) rfl rfl (fun x14 hx14 => hK x14 hx14)) (fun b12 K' hK => op_ret rfl rfl rfl (c_from (r.Q.getD (n - q.d + r.m) zPl) (by first | assumption | exact (fun _ => ⟨rfl, rfl⟩) | exact OkPl.none hcand.2) (by first | omega | decide) (by first | omega | decide) _ _ (by omega) _ (by first | omega | exact brk_bd _)) (fun w hw => Reads.get (readsPl (i := 2) rfl hcand.2) w hw) rfl rfl (fun x13 hx13 => hK x13 hx13)) (fun x14 hx14 => ?_)
          refine ExDF.fin rfl (by kernel_rfl) rfl (List.Sublist.cons _ (List.Sublist.refl _)) (Alc.of rfl rfl rfl rfl rfl) (fun b15 => ?_)
          refine ExD.last (i := 22) rfl (by kernel_rfl) (by kernel_rfl) rfl (op_storeC (i := 0) rfl rfl rfl rfl rfl rfl rfl rfl rfl rfl ?_)
          refine ExD.done (by kernel_rfl) ?_
          rw [show (((n - q.d + r.m) : Nat) : Int) - (((n - 1 - q.d) : Nat) : Int) - 1 = (r.m : Int) by omega, hbe]
          refine Ex.conv (layEnd (perm_lt (i := 1) (j := 3) rfl rfl rfl)) ?_
          have hnok : OkPl 2 (r.P ++ [rowPl 2 (⟨(r.Q.getD (n - q.d + r.m) zPl).cost + (r.m : Int) * 1 + brk (fit (n - 1 - q.d) (n - q.d + r.m)) * 2, (r.Q.getD (n - q.d + r.m) zPl).breaks + brk (fit (n - 1 - q.d) (n - q.d + r.m)), x14.1, x14.2, (((n - 1 - q.d) : Nat) : Int) :: (r.Q.getD (n - q.d + r.m) zPl).xs⟩ : VPl)]) (⟨(r.Q.getD (n - q.d + r.m) zPl).cost + (r.m : Int) * 1 + brk (fit (n - 1 - q.d) (n - q.d + r.m)) * 2, (r.Q.getD (n - q.d + r.m) zPl).breaks + brk (fit (n - 1 - q.d) (n - q.d + r.m)), x14.1, x14.2, (((n - 1 - q.d) : Nat) : Int) :: (r.Q.getD (n - q.d + r.m) zPl).xs⟩ : VPl) := .inl ⟨by simp, hx14⟩
          have hcok := hI.cok.more (rowPl 2 (⟨(r.Q.getD (n - q.d + r.m) zPl).cost + (r.m : Int) * 1 + brk (fit (n - 1 - q.d) (n - q.d + r.m)) * 2, (r.Q.getD (n - q.d + r.m) zPl).breaks + brk (fit (n - 1 - q.d) (n - q.d + r.m)), x14.1, x14.2, (((n - 1 - q.d) : Nat) : Int) :: (r.Q.getD (n - q.d + r.m) zPl).xs⟩ : VPl))
          have hnt : ((⟨(r.Q.getD (n - q.d + r.m) zPl).cost + (r.m : Int) * 1 + brk (fit (n - 1 - q.d) (n - q.d + r.m)) * 2, (r.Q.getD (n - q.d + r.m) zPl).breaks + brk (fit (n - 1 - q.d) (n - q.d + r.m)), x14.1, x14.2, (((n - 1 - q.d) : Nat) : Int) :: (r.Q.getD (n - q.d + r.m) zPl).xs⟩ : VPl)).t = candT fit n q.d (tl fit n wo q.d) r.m := by rw [candT, ← hcand.1]; rfl
          refine Ex.drawSeqM rfl ?_
          refine ExD.take (i := 0) rfl (by kernel_rfl) (fr_loadN rfl rfl rfl rfl rfl (SegO.whole (i := 1) rfl)) ((List.Sublist.refl _)) rfl rfl rfl ?_
          refine ExD.take (i := 1) rfl (by kernel_rfl) (pureVal_ok rfl) ((List.Sublist.refl _)) rfl rfl rfl ?_
          refine ExD.take (i := 2) rfl (by kernel_rfl) (pureVal_ok rfl) ((List.Sublist.refl _)) rfl rfl rfl ?_
          refine ExD.take (i := 3) rfl (by kernel_rfl) (fr_indexAddr (sz := 3) rfl rfl rfl rfl rfl rfl (by omega)) ((List.Sublist.refl _)) rfl rfl rfl ?_
          refine ExD.take (i := 4) rfl (by kernel_rfl) (fr_loadN rfl rfl rfl rfl rfl (segJ ((n - 1 - q.d)) (Reads.row (i := 2) rfl) encPl_len rfl zPl (by omega) (by omega))) ((List.Sublist.refl _)) rfl rfl rfl ?_
          refine ExD.op (i := 5) rfl (by kernel_rfl) rfl (op_ret rfl rfl rfl (c_less (⟨(r.Q.getD (n - q.d + r.m) zPl).cost + (r.m : Int) * 1 + brk (fit (n - 1 - q.d) (n - q.d + r.m)) * 2, (r.Q.getD (n - q.d + r.m) zPl).breaks + brk (fit (n - 1 - q.d) (n - q.d + r.m)), x14.1, x14.2, (((n - 1 - q.d) : Nat) : Int) :: (r.Q.getD (n - q.d + r.m) zPl).xs⟩ : VPl) (r.Q.getD (n - 1 - q.d) zPl) (by first | omega | (simp only [List.length_cons]; omega) | (simp only [addP]; omega)) (by first | omega | (simp only [List.length_cons]; omega))) (fun w hw => ⟨Reads.get (readsPl (i := 0) rfl hnok) w hw, Reads.get (readsPl (i := 0) rfl hcok) w hw⟩) rfl rfl (fun x16 hx16 => ⟨(List.Sublist.refl _), ?_⟩))
          refine ExD.done (by kernel_rfl) ?_
          refine Ex.cond rfl (fun hb17 => ?_) (fun hb17 => ?_)
          · refine Ex.region (ExL.pures 2 rfl ?_)
            refine ExL.free (fr_loadN rfl rfl rfl rfl rfl (SegO.whole (i := 1) rfl)) rfl rfl rfl ?_
            refine ExL.free (fr_indexAddr (sz := 3) rfl rfl rfl rfl rfl rfl (by omega)) rfl rfl rfl ?_
            refine ExL.op rfl (op_storeRowF (i := 2) rfl rfl rfl rfl rfl rfl rfl rfl (room encPl_len (k := (n - 1 - q.d)) (by omega) (by simp) rfl) (List.cons_ne_nil _ _) rfl (pl_put (i := (n - 1 - q.d)) (⟨(r.Q.getD (n - q.d + r.m) zPl).cost + (r.m : Int) * 1 + brk (fit (n - 1 - q.d) (n - q.d + r.m)) * 2, (r.Q.getD (n - q.d + r.m) zPl).breaks + brk (fit (n - 1 - q.d) (n - q.d + r.m)), x14.1, x14.2, (((n - 1 - q.d) : Nat) : Int) :: (r.Q.getD (n - q.d + r.m) zPl).xs⟩ : VPl) (by omega) (by simp) rfl) ?_)
            refine ExL.nil ?_
            refine Ex.region (ExL.pures 1 rfl ?_)
            refine ExL.free (by first | exact fr_add64 rfl rfl rfl (by omega) | exact fr_add rfl rfl rfl) rfl rfl rfl ?_
            refine ExL.pures 1 rfl ?_
            refine ExL.nil ?_
            refine Hand.mk ((⟨r.m + 1, r.Q.set (n - 1 - q.d) (⟨(r.Q.getD (n - q.d + r.m) zPl).cost + (r.m : Int) * 1 + brk (fit (n - 1 - q.d) (n - q.d + r.m)) * 2, (r.Q.getD (n - q.d + r.m) zPl).breaks + brk (fit (n - 1 - q.d) (n - q.d + r.m)), x14.1, x14.2, (((n - 1 - q.d) : Nat) : Int) :: (r.Q.getD (n - q.d + r.m) zPl).xs⟩ : VPl), r.P ++ [rowPl 2 (⟨(r.Q.getD (n - q.d + r.m) zPl).cost + (r.m : Int) * 1 + brk (fit (n - 1 - q.d) (n - q.d + r.m)) * 2, (r.Q.getD (n - q.d + r.m) zPl).breaks + brk (fit (n - 1 - q.d) (n - q.d + r.m)), x14.1, x14.2, (((n - 1 - q.d) : Nat) : Int) :: (r.Q.getD (n - q.d + r.m) zPl).xs⟩ : VPl)]⟩ : ISt)) 5 [2, 0, 3, 4] ⟨agI (by first | omega | (dsimp only; omega)), trivial⟩ ⟨rfl, rfl, rfl, rfl, rfl, rfl, rfl, rfl, trivial⟩ (rfl) rfl (hI.take (by omega) (by omega) (⟨(r.Q.getD (n - q.d + r.m) zPl).cost + (r.m : Int) * 1 + brk (fit (n - 1 - q.d) (n - q.d + r.m)) * 2, (r.Q.getD (n - q.d + r.m) zPl).breaks + brk (fit (n - 1 - q.d) (n - q.d + r.m)), x14.1, x14.2, (((n - 1 - q.d) : Nat) : Int) :: (r.Q.getD (n - q.d + r.m) zPl).xs⟩ : VPl) hnt hx14 (by assumption)) (by first | omega | (dsimp only; omega))
          · refine Ex.skip ?_
            refine Ex.region (ExL.pures 1 rfl ?_)
            refine ExL.free (by first | exact fr_add64 rfl rfl rfl (by omega) | exact fr_add rfl rfl rfl) rfl rfl rfl ?_
            refine ExL.pures 1 rfl ?_
            refine ExL.nil ?_
            refine Hand.mk ((⟨r.m + 1, r.Q, r.P ++ [rowPl 2 (⟨(r.Q.getD (n - q.d + r.m) zPl).cost + (r.m : Int) * 1 + brk (fit (n - 1 - q.d) (n - q.d + r.m)) * 2, (r.Q.getD (n - q.d + r.m) zPl).breaks + brk (fit (n - 1 - q.d) (n - q.d + r.m)), x14.1, x14.2, (((n - 1 - q.d) : Nat) : Int) :: (r.Q.getD (n - q.d + r.m) zPl).xs⟩ : VPl)]⟩ : ISt)) 5 [2, 0, 3, 4] ⟨agI (by first | omega | (dsimp only; omega)), trivial⟩ ⟨rfl, rfl, rfl, rfl, rfl, rfl, rfl, rfl, trivial⟩ (rfl) rfl (hI.keep (by omega) (by omega) (⟨(r.Q.getD (n - q.d + r.m) zPl).cost + (r.m : Int) * 1 + brk (fit (n - 1 - q.d) (n - q.d + r.m)) * 2, (r.Q.getD (n - q.d + r.m) zPl).breaks + brk (fit (n - 1 - q.d) (n - q.d + r.m)), x14.1, x14.2, (((n - 1 - q.d) : Nat) : Int) :: (r.Q.getD (n - q.d + r.m) zPl).xs⟩ : VPl) hnt (by assumption)) (by first | omega | (dsimp only; omega))
      · refine ExL.nil ?_
        refine Ex.cond_f rfl ?_
        refine Ex.exit ?_
        have hmq : r.m = q.d := by omega
        rw [hmq] at hI
        have hcok := hI.cok
        have hib := hI.ibd
        have hob := hI.obd
        refine Ex.regSeq (ExL.pures 2 rfl ?_)
        refine ExL.free (fr_indexAddr (sz := 3) rfl rfl rfl rfl rfl rfl (by omega)) rfl rfl rfl ?_
        refine ExL.free (fr_loadN rfl rfl rfl rfl rfl (segJ ((n - 1 - q.d)) (Reads.row (i := 0) rfl) encPl_len rfl zPl (by omega) (by omega))) rfl rfl rfl ?_
        refine ExL.op rfl (op_alloc rfl rfl rfl rfl rfl (fun b18 => ?_))
        refine ExL.op rfl (op_storeC (i := 0) rfl rfl rfl rfl rfl rfl rfl rfl rfl rfl ?_)
        refine ExL.nil ?_
        refine Ex.regSeq (ExL.pures 1 rfl ?_)
        refine ExL.free (fr_load rfl rfl rfl rfl (CellO.blk (i := 0) rfl rfl)) rfl rfl rfl ?_
        refine ExL.pures 1 rfl ?_
        refine ExL.free (by first | exact fr_mul64 rfl rfl rfl (by omega) | exact fr_mul rfl rfl rfl) rfl rfl rfl ?_
        refine ExL.free (by first | exact fr_add64 rfl rfl rfl (by omega) | exact fr_add rfl rfl rfl) rfl rfl rfl ?_
        refine ExL.pures 1 rfl ?_
        refine ExL.op rfl (op_storeC (i := 0) rfl rfl rfl rfl rfl rfl rfl rfl rfl rfl ?_)
        refine ExL.nil ?_
        refine Ex.regSeq (ExL.pures 3 rfl ?_)
        refine ExL.bool (d := 93) rfl (fun hb19 => ?_) (fun hb19 => ?_)
        · replace hb19 := nb_t hb19
          refine ExL.pures 4 rfl ?_
          refine ExL.nil ?_
          refine Ex.cond_t rfl ?_
          refine Ex.region (ExL.pures 0 rfl ?_)
          refine ExL.free (fr_loadN rfl rfl rfl rfl rfl (SegO.whole (i := 0) rfl)) rfl rfl rfl ?_
          refine ExL.op rfl (op_storeC (i := 3) rfl rfl rfl rfl rfl rfl rfl rfl rfl rfl ?_)
          refine ExL.pures 1 rfl ?_
          refine ExL.nil ?_
          refine Ex.region (ExL.pures 1 rfl ?_)
          refine ExL.free (by first | exact fr_sub64 rfl rfl rfl (by omega) | exact fr_sub rfl rfl rfl) rfl rfl rfl ?_
          refine ExL.pures 1 rfl ?_
          refine ExL.nil ?_
          obtain ⟨hB1, hB2⟩ := hI.new hwo (by first | exact .inl (by assumption) | exact .inr (by assumption))
          refine Hand.mk ((⟨q.d + 1, r.Q, r.P, addP (r.Q.getD (n - 1 - q.d) zPl) (((n - 1 - q.d) : Nat) : Int)⟩ : BSt)) 5 [1, 2, 3, 4] ⟨agB hB2.symm, agI (by first | omega | (dsimp only; omega)), trivial⟩ ⟨rfl, rfl, rfl, rfl, rfl, rfl, trivial⟩ (rfl) rfl (hB1) (by first | omega | (dsimp only; omega))
        · replace hb19 := nb_f hb19
          refine ExL.free (fr_loadN rfl rfl rfl rfl rfl (SegO.whole (i := 0) rfl)) rfl rfl rfl ?_
          refine ExL.free (fr_loadN rfl rfl rfl rfl rfl (SegO.whole (i := 3) rfl)) rfl rfl rfl ?_
          refine ExL.op rfl (op_ret rfl rfl rfl (c_less (addP (r.Q.getD (n - 1 - q.d) zPl) (((n - 1 - q.d) : Nat) : Int)) q.o (by first | omega | (simp only [List.length_cons]; omega) | (simp only [addP]; omega)) (by first | omega | (simp only [List.length_cons]; omega))) (fun w hw => ⟨Reads.get (readsPl (i := 2) rfl (hcok.add _)) w hw, Reads.get (readsPl (i := 2) rfl hI.ok) w hw⟩) rfl rfl (fun x20 hx20 => ?_))
          refine ExL.pures 1 rfl ?_
          refine ExL.nil ?_
          refine Ex.cond rfl (fun hb21 => ?_) (fun hb21 => ?_)
          · refine Ex.region (ExL.pures 0 rfl ?_)
            refine ExL.free (fr_loadN rfl rfl rfl rfl rfl (SegO.whole (i := 0) rfl)) rfl rfl rfl ?_
            refine ExL.op rfl (op_storeC (i := 3) rfl rfl rfl rfl rfl rfl rfl rfl rfl rfl ?_)
            refine ExL.pures 1 rfl ?_
            refine ExL.nil ?_
            refine Ex.region (ExL.pures 1 rfl ?_)
            refine ExL.free (by first | exact fr_sub64 rfl rfl rfl (by omega) | exact fr_sub rfl rfl rfl) rfl rfl rfl ?_
            refine ExL.pures 1 rfl ?_
            refine ExL.nil ?_
            obtain ⟨hB1, hB2⟩ := hI.new hwo (by first | exact .inl (by assumption) | exact .inr (by assumption))
            refine Hand.mk ((⟨q.d + 1, r.Q, r.P, addP (r.Q.getD (n - 1 - q.d) zPl) (((n - 1 - q.d) : Nat) : Int)⟩ : BSt)) 5 [1, 2, 3, 4] ⟨agB hB2.symm, agI (by first | omega | (dsimp only; omega)), trivial⟩ ⟨rfl, rfl, rfl, rfl, rfl, rfl, trivial⟩ (rfl) rfl (hB1) (by first | omega | (dsimp only; omega))
          · refine Ex.skip ?_
            refine Ex.region (ExL.pures 1 rfl ?_)
            refine ExL.free (by first | exact fr_sub64 rfl rfl rfl (by omega) | exact fr_sub rfl rfl rfl) rfl rfl rfl ?_
            refine ExL.pures 1 rfl ?_
            refine ExL.nil ?_
            obtain ⟨hB1, hB2⟩ := hI.old hwo (by assumption) (by assumption)
            refine Hand.mk ((⟨q.d + 1, r.Q, r.P, q.o⟩ : BSt)) 5 [1, 2, 3, 4] ⟨agB (by rw [hB2]; assumption), agI (by first | omega | (dsimp only; omega)), trivial⟩ ⟨rfl, rfl, rfl, rfl, rfl, rfl, trivial⟩ (rfl) rfl (hB1) (by first | omega | (dsimp only; omega))
  · refine ExL.nil ?_
    refine Ex.cond_f rfl ?_
    refine Ex.exit ?_
    have hdn2 : q.d = n := by omega
    have hout := hI.out
    rw [hdn2] at hout
    refine Ex.regSeq (ExL.pures 0 rfl ?_)
    refine ExL.free (fr_loadN rfl rfl rfl rfl rfl (SegO.whole (i := 2) rfl)) rfl rfl rfl ?_
    refine ExL.op rfl (op_storeC (i := 3) rfl rfl rfl rfl rfl rfl rfl rfl rfl rfl ?_)
    refine ExL.nil ?_
    refine Ex.ret ?_
    refine RetQ.mk (q.o, q.P) rfl (.cell rfl (.many rfl rfl rfl (SegO.whole (i := 3) rfl)) .nil) (rfl) [1] (rfl) rfl (hout)
end Go.Proofs.YtddflaaccmjoeaaGreatDoor

/- What these functions of the program hand back, each proved by walking its operations. -/
set_option linter.unusedVariables false
set_option linter.unusedSimpArgs false
set_option maxRecDepth 4000
namespace Go.Proofs.YtddflaaccmjoeaaGreatDoor
open Go Go.Sx Go.RowKit Go.W Go.Proofs
attribute [local irreducible] Ex ExL ExD Op1 Free RetQ MutQ Reads CellO SegO LoadsAs
theorem e_34 : Enters Tryz.prog 34 := Enters.of Tryz.func34 rfl
set_option maxHeartbeats 1000000 in
theorem c_told (fit : Nat → Nat → Bool) (n : Nat) (hn : n ≤ 40) (K : List (VX Bool)) (hKl : K.length = n) (hCK : CanK fit n K) (b o : Nat) (As Al : Option Addr) (ns cs cl : Nat) (y : VSt) (Y1 : Option Addr) (yc1 : Nat) (Y2 : Option Addr) (yc2 : Nat) (hy : y.kept.length ≤ 1000 ∧ y.breaks.length ≤ 1000) : Ret Tryz.prog 34 [.pointer (some ⟨b, 0, none⟩), .agg (encY Y1 yc1 Y2 yc2 y).toArray] (fun w => (Rd w (some ⟨b, 0, none⟩) [.slice As ns cs, .slice Al n cl, .slice (some ⟨o, 0, none⟩) n n] ∧ Rd w (some ⟨o, 0, none⟩) (K.flatMap encX) ∧ ∀ k, k < K.length → Rd w (K.getD k zX).A ((K.getD k zX).xs.flatMap eB)) ∧ Rd w Y1 (y.kept.flatMap (eI .i64)) ∧ Rd w Y2 (y.breaks.flatMap (eI .i64))) (fun x : Unit => .bool (toldB fit n y)) (fun x => []) (fun x => True) := by
  refine Ret.of e_34 Tryz.func34 rfl Tryz.ntmps34 rfl rfl (fun w hpre => ?_)
  have hky := hpre.2.1.base
  have hby := hpre.2.2.base
  have hpre := hpre.1
  have hd := hpre.1.base
  have hc := hpre.2.1.base
  have hcr := fun k hk => (hpre.2.2 k hk).base
  have hKn := hKl
  have hm0 : maxLen = 9223372036854775807 := rfl
  obtain ⟨hy1, hy2⟩ := hy
  refine Ex.regSeq (ExL.pures 0 rfl ?_)
  refine ExL.op rfl (op_box rfl rfl rfl rfl rfl (fun b1 => ?_))
  refine ExL.pures 1 rfl ?_
  refine ExL.nil ?_
  refine Ex.regSeq (ExL.pures 3 rfl ?_)
  refine ExL.free (fr_load rfl rfl rfl rfl (CellO.at 1 (Reads.old hd) rfl)) rfl rfl rfl ?_
  refine ExL.pures 2 rfl ?_
  refine ExL.nil ?_
  refine Ex.seq ?_
  refine Ex.regSeq (ExL.pures 1 rfl ?_)
  refine ExL.free (fr_load rfl rfl rfl rfl (CellO.blk (i := 0) rfl rfl)) rfl rfl rfl ?_
  refine ExL.pures 1 rfl ?_
  refine ExL.op rfl (op_ret rfl rfl rfl (c_rising y.kept _ _ (by omega) n (by omega)) (Reads.get (Reads.old hky)) rfl rfl (fun x2 hx2 => ?_))
  refine ExL.pures 2 rfl ?_
  refine ExL.bool (d := 19) rfl (fun hb3 => ?_) (fun hb3 => ?_)
  · replace hb3 := nb_t hb3
    refine ExL.pures 16 rfl ?_
    refine ExL.nil ?_
    refine Ex.cond_t rfl ?_
    refine Ex.regSeq (ExL.pures 1 rfl ?_)
    refine ExL.nil ?_
    refine Ex.ret ?_
    refine RetQ.mk () rfl (.tmp rfl .nil) (tB (by first | exact told_n1 (by assumption) | exact told_n2 (by assumption) | exact told_n3 (by omega) (by omega) | exact told_n4 (k := k) (by omega) (mem_no hRk (by assumption)) | exact told_n4 (k := k) (by omega) (mem_hasn (by assumption)) | exact told_n4 (k := k) (by omega) (mem_fst hRk (by assumption)) | exact told_n5 (k := k) (by omega) ha hb_ (by first | assumption | (rw [← hbe]; assumption)) (by assumption) | exact told_end hRk hRb hpos hmem (fun j hj => hgap j (by omega)) (by omega))) [] (rfl) rfl (trivial)
  · replace hb3 := nb_f hb3
    refine ExL.pures 1 rfl ?_
    refine ExL.free (fr_load rfl rfl rfl rfl (CellO.blk (i := 0) rfl rfl)) rfl rfl rfl ?_
    refine ExL.pures 1 rfl ?_
    refine ExL.op rfl (op_ret rfl rfl rfl (c_rising y.breaks _ _ (by omega) n (by omega)) (Reads.get (Reads.old hby)) rfl rfl (fun x4 hx4 => ?_))
    refine ExL.pures 3 rfl ?_
    refine ExL.bool (d := 26) rfl (fun hb5 => ?_) (fun hb5 => ?_)
    · replace hb5 := nb_t hb5
      refine ExL.pures 9 rfl ?_
      refine ExL.nil ?_
      refine Ex.cond_t rfl ?_
      refine Ex.regSeq (ExL.pures 1 rfl ?_)
      refine ExL.nil ?_
      refine Ex.ret ?_
      refine RetQ.mk () rfl (.tmp rfl .nil) (tB (by first | exact told_n1 (by assumption) | exact told_n2 (by assumption) | exact told_n3 (by omega) (by omega) | exact told_n4 (k := k) (by omega) (mem_no hRk (by assumption)) | exact told_n4 (k := k) (by omega) (mem_hasn (by assumption)) | exact told_n4 (k := k) (by omega) (mem_fst hRk (by assumption)) | exact told_n5 (k := k) (by omega) ha hb_ (by first | assumption | (rw [← hbe]; assumption)) (by assumption) | exact told_end hRk hRb hpos hmem (fun j hj => hgap j (by omega)) (by omega))) [] (rfl) rfl (trivial)
    · replace hb5 := nb_f hb5
      refine ExL.pures 1 rfl ?_
      refine ExL.gtr rfl rfl rfl rfl rfl rfl (fun h6 => ?_) (fun h6 => ?_)
      · refine ExL.pures 2 rfl ?_
        refine ExL.free (fr_load rfl rfl rfl rfl (CellO.blk (i := 0) rfl rfl)) rfl rfl rfl ?_
        refine ExL.pures 1 rfl ?_
        refine ExL.eql rfl rfl rfl rfl rfl rfl (fun h7 => ?_) (fun h7 => ?_)
        · refine ExL.pures 2 rfl ?_
          refine ExL.nil ?_
          refine Ex.cond_t rfl ?_
          refine Ex.regSeq (ExL.pures 1 rfl ?_)
          refine ExL.nil ?_
          refine Ex.ret ?_
          refine RetQ.mk () rfl (.tmp rfl .nil) (tB (by first | exact told_n1 (by assumption) | exact told_n2 (by assumption) | exact told_n3 (by omega) (by omega) | exact told_n4 (k := k) (by omega) (mem_no hRk (by assumption)) | exact told_n4 (k := k) (by omega) (mem_hasn (by assumption)) | exact told_n4 (k := k) (by omega) (mem_fst hRk (by assumption)) | exact told_n5 (k := k) (by omega) ha hb_ (by first | assumption | (rw [← hbe]; assumption)) (by assumption) | exact told_end hRk hRb hpos hmem (fun j hj => hgap j (by omega)) (by omega))) [] (rfl) rfl (trivial)
        · refine ExL.pures 2 rfl ?_
          refine ExL.nil ?_
          refine Ex.cond_f rfl ?_
          refine Ex.skip ?_
          refine Ex.seq ?_
          have hRk := risB_t.1 (by assumption : risB n y.kept = true)
          have hRb := risB_t.1 (by assumption : risB n y.breaks = true)
          have hpos : 0 < n → 0 < y.kept.length := fun h0 => by omega
          have hkln := hRk.len
          have hbln := hRb.len
          refine Ex.regSeq (ExL.pures 1 rfl ?_)
          refine ExL.free (fr_load rfl rfl rfl rfl (CellO.blk (i := 0) rfl rfl)) rfl rfl rfl ?_
          refine ExL.pures 2 rfl ?_
          refine ExL.nil ?_
          refine Ex.block ?_
          refine Ex.loopK (X := Nat) (fun k => [(39, .int .i64 k)]) (fun k => []) (fun k => k ≤ y.breaks.length ∧ ∀ i, i < k → MemK y i) (fun k => y.breaks.length - k) 0 [(0, _), (3, _), (5, _), (37, _), (38, _)] [_] 1 [0] ⟨rfl, trivial⟩ ⟨rfl, rfl, rfl, rfl, rfl, trivial⟩ (rfl) rfl ⟨Nat.zero_le _, fun i hi => by omega⟩ (fun k hI => ?_)
          have hI : k ≤ y.breaks.length ∧ ∀ i, i < k → MemK y i := hI
          obtain ⟨hk9, hall⟩ := hI
          refine Ex.regSeq (ExL.pures 0 rfl ?_)
          refine ExL.lss rfl rfl rfl rfl rfl rfl (fun h8 => ?_) (fun h8 => ?_)
          · refine ExL.nil ?_
            refine Ex.seq ?_
            refine Ex.cond_t rfl ?_
            refine Ex.skip ?_
            refine Ex.seq ?_
            refine Ex.block ?_
            have hkl : k < y.breaks.length := by omega
            refine Ex.regSeq (ExL.pures 0 rfl ?_)
            refine ExL.free (fr_indexAddrF (Reads.old hby) (eI_len .i64) rfl rfl rfl rfl rfl rfl (by omega)) rfl rfl rfl ?_
            refine ExL.free (fr_load rfl rfl rfl rfl (cellJ (i := ↑k) (k) (Reads.old hby) (eI_len .i64) 0 0 rfl (by omega) (by omega) rfl)) rfl rfl rfl ?_
            refine ExL.pures 1 rfl ?_
            refine ExL.nil ?_
            refine Ex.regSeq (ExL.pures 1 rfl ?_)
            refine ExL.free (fr_load rfl rfl rfl rfl (CellO.blk (i := 0) rfl rfl)) rfl rfl rfl ?_
            refine ExL.pures 1 rfl ?_
            refine ExL.op rfl (op_ret rfl rfl rfl (c_nIndex y.kept _ _ (by omega) (y.breaks.getD k 0)) (Reads.get (Reads.old hky)) rfl rfl (fun x9 hx9 => ?_))
            refine ExL.lss rfl rfl rfl rfl rfl rfl (fun h10 => ?_) (fun h10 => ?_)
            · refine ExL.nil ?_
              refine Ex.cond_t rfl ?_
              refine Ex.regSeq (ExL.pures 1 rfl ?_)
              refine ExL.nil ?_
              refine Ex.ret ?_
              refine RetQ.mk () rfl (.tmp rfl .nil) (tB (by first | exact told_n1 (by assumption) | exact told_n2 (by assumption) | exact told_n3 (by omega) (by omega) | exact told_n4 (k := k) (by omega) (mem_no hRk (by assumption)) | exact told_n4 (k := k) (by omega) (mem_hasn (by assumption)) | exact told_n4 (k := k) (by omega) (mem_fst hRk (by assumption)) | exact told_n5 (k := k) (by omega) ha hb_ (by first | assumption | (rw [← hbe]; assumption)) (by assumption) | exact told_end hRk hRb hpos hmem (fun j hj => hgap j (by omega)) (by omega))) [] (rfl) rfl (trivial)
            · refine ExL.nil ?_
              refine Ex.cond_f rfl ?_
              refine Ex.skip ?_
              refine Ex.region (ExL.pures 0 rfl ?_)
              refine ExL.free (by first | exact fr_add64 rfl rfl rfl (by omega) | exact fr_add rfl rfl rfl) rfl rfl rfl ?_
              refine ExL.pures 1 rfl ?_
              refine ExL.nil ?_
              refine Hand.mk (k + 1) 1 [0] ⟨rfl, trivial⟩ ⟨rfl, rfl, rfl, rfl, rfl, trivial⟩ (rfl) rfl (⟨by omega, all_snoc hall (mem_idx (by assumption))⟩) (by omega)
          · refine ExL.nil ?_
            refine Ex.seq ?_
            refine Ex.cond_f rfl ?_
            refine Ex.exit ?_
            have hmem : ∀ i, i < y.breaks.length → MemK y i := fun i hi => hall i (by omega)
            refine Ex.seq ?_
            refine Ex.regSeq (ExL.pures 1 rfl ?_)
            refine ExL.nil ?_
            refine Ex.block ?_
            refine Ex.loopK (X := Nat) (fun k => [(8, .int .i64 ((k : Int) + 1))]) (fun k => []) (fun k => (k + 1 ≤ y.kept.length ∨ k = 0) ∧ ∀ j, j < k → GapK (fit) y j) (fun k => y.kept.length - k) 0 [(0, _), (3, _), (5, _)] [_] 1 [0] ⟨rfl, trivial⟩ ⟨rfl, rfl, rfl, trivial⟩ (rfl) rfl ⟨.inr rfl, fun j hj => by omega⟩ (fun k hI => ?_)
            have hI : (k + 1 ≤ y.kept.length ∨ k = 0) ∧ ∀ j, j < k → GapK (fit) y j := hI
            obtain ⟨hk9, hgap⟩ := hI
            refine Ex.seq ?_
            refine Ex.regSeq (ExL.pures 2 rfl ?_)
            refine ExL.free (fr_load rfl rfl rfl rfl (CellO.blk (i := 0) rfl rfl)) rfl rfl rfl ?_
            refine ExL.pures 1 rfl ?_
            refine ExL.lss rfl rfl rfl rfl rfl rfl (fun h11 => ?_) (fun h11 => ?_)
            · refine ExL.nil ?_
              refine Ex.cond_t rfl ?_
              refine Ex.skip ?_
              refine Ex.seq ?_
              refine Ex.block ?_
              have hkl : k + 1 < y.kept.length := by omega
              obtain ⟨a, b_, ha, hb_, hab, hbn⟩ := hRk.nat (k := k) (by omega)
              obtain ⟨hxl, hbe⟩ := canK_bool hCK (i := a) (j := b_) (by omega) hab hbn
              refine Ex.drawSeqM rfl ?_
              refine ExD.take (i := 0) rfl (by kernel_rfl) (pureVal_ok rfl) ((List.Sublist.refl _)) rfl rfl rfl ?_
              refine ExD.take (i := 1) rfl (by kernel_rfl) (pureVal_ok rfl) ((List.Sublist.refl _)) rfl rfl rfl ?_
              refine ExD.take (i := 2) rfl (by kernel_rfl) (pureVal_ok rfl) ((List.Sublist.refl _)) rfl rfl rfl ?_
              refine ExD.take (i := 3) rfl (by kernel_rfl) (fr_load rfl rfl rfl rfl (CellO.at 2 (Reads.old hd) rfl)) ((List.Sublist.refl _)) rfl rfl rfl ?_
              refine ExD.take (i := 4) rfl (by kernel_rfl) (pureVal_ok rfl) ((List.Sublist.refl _)) rfl rfl rfl ?_
              refine ExD.take (i := 5) rfl (by kernel_rfl) (fr_load rfl rfl rfl rfl (CellO.blk (i := 0) rfl rfl)) ((List.Sublist.refl _)) rfl rfl rfl ?_
              refine ExD.take (i := 6) rfl (by kernel_rfl) (pureVal_ok rfl) ((List.Sublist.refl _)) rfl rfl rfl ?_
              refine ExD.take (i := 7) rfl (by kernel_rfl) (by first | exact fr_sub64 rfl rfl rfl (by omega) | exact fr_sub rfl rfl rfl) ((List.Sublist.refl _)) rfl rfl rfl ?_
              refine ExD.take (i := 8) rfl (by kernel_rfl) (fr_indexAddrF (Reads.old hky) (eI_len .i64) rfl rfl rfl rfl rfl rfl (by omega)) ((List.Sublist.refl _)) rfl rfl rfl ?_
              refine ExD.take (i := 9) rfl (by kernel_rfl) (fr_load (v := .int .i64 (a : Int)) rfl rfl rfl rfl (cellJ (i := ((k : Int) + 1 - 1)) k (Reads.old hky) (eI_len .i64) 0 0 rfl (by omega) (by omega) (by show some (Value.int .i64 _) = _; rw [ha]))) ((List.Sublist.refl _)) rfl rfl rfl ?_
              refine ExD.take (i := 10) rfl (by kernel_rfl) (fr_indexAddrE (sz := 1) hKl (Reads.old hc) encX_len rfl rfl rfl rfl rfl rfl (by omega)) ((List.Sublist.refl _)) rfl rfl rfl ?_
              refine ExD.take (i := 11) rfl (by kernel_rfl) (fr_load rfl rfl rfl rfl (cellJ (i := ↑a) (a) (Reads.old hc) encX_len zX 0 rfl (by omega) (by omega) rfl)) ((List.Sublist.refl _)) rfl rfl rfl ?_
              refine ExD.take (i := 12) rfl (by kernel_rfl) (pureVal_ok rfl) ((List.Sublist.refl _)) rfl rfl rfl ?_
              refine ExD.take (i := 13) rfl (by kernel_rfl) (fr_load rfl rfl rfl rfl (CellO.blk (i := 0) rfl rfl)) ((List.Sublist.refl _)) rfl rfl rfl ?_
              refine ExD.take (i := 14) rfl (by kernel_rfl) (pureVal_ok rfl) ((List.Sublist.refl _)) rfl rfl rfl ?_
              refine ExD.take (i := 15) rfl (by kernel_rfl) (fr_indexAddrF (Reads.old hky) (eI_len .i64) rfl rfl rfl rfl rfl rfl (by omega)) ((List.Sublist.refl _)) rfl rfl rfl ?_
              refine ExD.take (i := 16) rfl (by kernel_rfl) (fr_load (v := .int .i64 (b_ : Int)) rfl rfl rfl rfl (cellJ (i := ((k : Int) + 1)) (k + 1) (Reads.old hky) (eI_len .i64) 0 0 rfl (by omega) (by omega) (by show some (Value.int .i64 _) = _; rw [hb_]))) ((List.Sublist.refl _)) rfl rfl rfl ?_
              refine ExD.take (i := 17) rfl (by kernel_rfl) (fr_indexAddrF (Reads.old (hcr a (by omega))) eB_len rfl rfl rfl rfl rfl rfl (by omega)) ((List.Sublist.refl _)) rfl rfl rfl ?_
              refine ExD.take (i := 18) rfl (by kernel_rfl) (fr_load rfl rfl rfl rfl (cellJ (i := ↑b_) (b_) (Reads.old (hcr a (by omega))) eB_len false 0 rfl (by omega) (by omega) rfl)) ((List.Sublist.refl _)) rfl rfl rfl ?_
              refine ExD.take (i := 19) rfl (by kernel_rfl) (pureVal_ok rfl) ((List.Sublist.refl _)) rfl rfl rfl ?_
              refine ExD.take (i := 20) rfl (by kernel_rfl) (pureVal_ok rfl) ((List.Sublist.refl _)) rfl rfl rfl ?_
              refine ExD.bool (d := 76) rfl (fun hb12 => ?_) (fun hb12 => ?_)
              · replace hb12 := nb_t hb12
                refine ExD.take (i := 21) rfl (by kernel_rfl) (pureVal_ok rfl) ((List.Sublist.refl _)) rfl rfl rfl ?_
                refine ExD.take (i := 22) rfl (by kernel_rfl) (fr_load rfl rfl rfl rfl (CellO.blk (i := 0) rfl rfl)) ((List.Sublist.refl _)) rfl rfl rfl ?_
                refine ExD.take (i := 23) rfl (by kernel_rfl) (pureVal_ok rfl) ((List.Sublist.refl _)) rfl rfl rfl ?_
                refine ExD.take (i := 24) rfl (by kernel_rfl) (fr_load rfl rfl rfl rfl (CellO.blk (i := 0) rfl rfl)) ((List.Sublist.refl _)) rfl rfl rfl ?_
                refine ExD.take (i := 25) rfl (by kernel_rfl) (pureVal_ok rfl) ((List.Sublist.refl _)) rfl rfl rfl ?_
                refine ExD.take (i := 26) rfl (by kernel_rfl) (fr_indexAddrF (Reads.old hky) (eI_len .i64) rfl rfl rfl rfl rfl rfl (by omega)) ((List.Sublist.refl _)) rfl rfl rfl ?_
                refine ExD.take (i := 27) rfl (by kernel_rfl) (fr_load rfl rfl rfl rfl (cellJ (i := (↑k + 1)) ((k + 1)) (Reads.old hky) (eI_len .i64) 0 0 rfl (by omega) (by omega) rfl)) ((List.Sublist.refl _)) rfl rfl rfl ?_
                refine ExD.op (i := 28) rfl (by kernel_rfl) rfl (op_ret rfl rfl rfl (c_nContains y.breaks _ _ (by omega) (y.kept.getD (k + 1) 0)) (Reads.get (Reads.old hby)) rfl rfl (fun x13 hx13 => ⟨(List.Sublist.refl _), ?_⟩))
                refine ExD.take (i := 29) rfl (by kernel_rfl) (pureVal_ok rfl) ((List.Sublist.refl _)) rfl rfl rfl ?_
                refine ExD.take (i := 30) rfl (by kernel_rfl) (pureVal_ok rfl) ((List.Sublist.refl _)) rfl rfl rfl ?_
                refine ExD.done (by kernel_rfl) ?_
                refine Ex.cond rfl (fun hb14 => ?_) (fun hb14 => ?_)
                · replace hb14 := nb_t hb14
                  refine Ex.regSeq (ExL.pures 1 rfl ?_)
                  refine ExL.nil ?_
                  refine Ex.ret ?_
                  refine RetQ.mk () rfl (.tmp rfl .nil) (tB (by first | exact told_n1 (by assumption) | exact told_n2 (by assumption) | exact told_n3 (by omega) (by omega) | exact told_n4 (k := k) (by omega) (mem_no hRk (by assumption)) | exact told_n4 (k := k) (by omega) (mem_hasn (by assumption)) | exact told_n4 (k := k) (by omega) (mem_fst hRk (by assumption)) | exact told_n5 (k := k) (by omega) ha hb_ (by first | assumption | (rw [← hbe]; assumption)) (by assumption) | exact told_end hRk hRb hpos hmem (fun j hj => hgap j (by omega)) (by omega))) [] (rfl) rfl (trivial)
                · replace hb14 := nb_f hb14
                  refine Ex.skip ?_
                  refine Ex.region (ExL.pures 1 rfl ?_)
                  refine ExL.free (by first | exact fr_add64 rfl rfl rfl (by omega) | exact fr_add rfl rfl rfl) rfl rfl rfl ?_
                  refine ExL.pures 1 rfl ?_
                  refine ExL.nil ?_
                  refine Hand.mk (k + 1) 1 [0] ⟨agI (by omega), trivial⟩ ⟨rfl, rfl, rfl, trivial⟩ (rfl) rfl (⟨by omega, all_snoc hgap (by first | exact gap_1 ha hb_ (by first | assumption | (rw [← hbe]; assumption)) | exact gap_2 (by assumption))⟩) (by omega)
              · replace hb12 := nb_f hb12
                refine ExD.pass (i := 21) rfl (by kernel_rfl) ((List.Sublist.refl _)) rfl rfl rfl ?_
                refine ExD.pass (i := 22) rfl (by kernel_rfl) ((List.Sublist.refl _)) rfl rfl rfl ?_
                refine ExD.pass (i := 23) rfl (by kernel_rfl) ((List.Sublist.refl _)) rfl rfl rfl ?_
                refine ExD.pass (i := 24) rfl (by kernel_rfl) ((List.Sublist.refl _)) rfl rfl rfl ?_
                refine ExD.pass (i := 25) rfl (by kernel_rfl) ((List.Sublist.refl _)) rfl rfl rfl ?_
                refine ExD.pass (i := 26) rfl (by kernel_rfl) ((List.Sublist.refl _)) rfl rfl rfl ?_
                refine ExD.pass (i := 27) rfl (by kernel_rfl) ((List.Sublist.refl _)) rfl rfl rfl ?_
                refine ExD.pass (i := 28) rfl (by kernel_rfl) ((List.Sublist.refl _)) rfl rfl rfl ?_
                refine ExD.pass (i := 29) rfl (by kernel_rfl) ((List.Sublist.refl _)) rfl rfl rfl ?_
                refine ExD.take (i := 30) rfl (by kernel_rfl) (pureVal_ok rfl) ((List.Sublist.refl _)) rfl rfl rfl ?_
                refine ExD.done (by kernel_rfl) ?_
                refine Ex.cond_f rfl ?_
                refine Ex.skip ?_
                refine Ex.region (ExL.pures 1 rfl ?_)
                refine ExL.free (by first | exact fr_add64 rfl rfl rfl (by omega) | exact fr_add rfl rfl rfl) rfl rfl rfl ?_
                refine ExL.pures 1 rfl ?_
                refine ExL.nil ?_
                refine Hand.mk (k + 1) 1 [0] ⟨agI (by omega), trivial⟩ ⟨rfl, rfl, rfl, trivial⟩ (rfl) rfl (⟨by omega, all_snoc hgap (by first | exact gap_1 ha hb_ (by first | assumption | (rw [← hbe]; assumption)) | exact gap_2 (by assumption))⟩) (by omega)
            · refine ExL.nil ?_
              refine Ex.cond_f rfl ?_
              refine Ex.exit ?_
              refine Ex.regSeq (ExL.pures 1 rfl ?_)
              refine ExL.free (fr_load rfl rfl rfl rfl (CellO.blk (i := 0) rfl rfl)) rfl rfl rfl ?_
              refine ExL.pures 2 rfl ?_
              refine ExL.free (fr_load rfl rfl rfl rfl (CellO.blk (i := 0) rfl rfl)) rfl rfl rfl ?_
              refine ExL.pures 1 rfl ?_
              refine ExL.free (by first | exact fr_sub64 rfl rfl rfl (by omega) | exact fr_sub rfl rfl rfl) rfl rfl rfl ?_
              refine ExL.free (by first | exact fr_mul64 rfl rfl rfl (by omega) | exact fr_mul rfl rfl rfl) rfl rfl rfl ?_
              refine ExL.pures 1 rfl ?_
              refine ExL.free (fr_load rfl rfl rfl rfl (CellO.blk (i := 0) rfl rfl)) rfl rfl rfl ?_
              refine ExL.pures 1 rfl ?_
              refine ExL.free (by first | exact fr_mul64 rfl rfl rfl (by omega) | exact fr_mul rfl rfl rfl) rfl rfl rfl ?_
              refine ExL.free (by first | exact fr_add64 rfl rfl rfl (by omega) | exact fr_add rfl rfl rfl) rfl rfl rfl ?_
              refine ExL.free (fr_eql rfl rfl rfl) rfl rfl rfl ?_
              refine ExL.pures 1 rfl ?_
              refine ExL.nil ?_
              refine Ex.ret ?_
              refine RetQ.mk () rfl (.tmp rfl .nil) (tB (by first | exact told_n1 (by assumption) | exact told_n2 (by assumption) | exact told_n3 (by omega) (by omega) | exact told_n4 (k := k) (by omega) (mem_no hRk (by assumption)) | exact told_n4 (k := k) (by omega) (mem_hasn (by assumption)) | exact told_n4 (k := k) (by omega) (mem_fst hRk (by assumption)) | exact told_n5 (k := k) (by omega) ha hb_ (by first | assumption | (rw [← hbe]; assumption)) (by assumption) | exact told_end hRk hRb hpos hmem (fun j hj => hgap j (by omega)) (by omega))) [] (rfl) rfl (trivial)
      · refine ExL.pures 7 rfl ?_
        refine ExL.nil ?_
        refine Ex.cond_f rfl ?_
        refine Ex.skip ?_
        refine Ex.seq ?_
        have hRk := risB_t.1 (by assumption : risB n y.kept = true)
        have hRb := risB_t.1 (by assumption : risB n y.breaks = true)
        have hpos : 0 < n → 0 < y.kept.length := fun h0 => by omega
        have hkln := hRk.len
        have hbln := hRb.len
        refine Ex.regSeq (ExL.pures 1 rfl ?_)
        refine ExL.free (fr_load rfl rfl rfl rfl (CellO.blk (i := 0) rfl rfl)) rfl rfl rfl ?_
        refine ExL.pures 2 rfl ?_
        refine ExL.nil ?_
        refine Ex.block ?_
        refine Ex.loopK (X := Nat) (fun k => [(39, .int .i64 k)]) (fun k => []) (fun k => k ≤ y.breaks.length ∧ ∀ i, i < k → MemK y i) (fun k => y.breaks.length - k) 0 [(0, _), (3, _), (5, _), (37, _), (38, _)] [_] 1 [0] ⟨rfl, trivial⟩ ⟨rfl, rfl, rfl, rfl, rfl, trivial⟩ (rfl) rfl ⟨Nat.zero_le _, fun i hi => by omega⟩ (fun k hI => ?_)
        have hI : k ≤ y.breaks.length ∧ ∀ i, i < k → MemK y i := hI
        obtain ⟨hk9, hall⟩ := hI
        refine Ex.regSeq (ExL.pures 0 rfl ?_)
        refine ExL.lss rfl rfl rfl rfl rfl rfl (fun h15 => ?_) (fun h15 => ?_)
        · refine ExL.nil ?_
          refine Ex.seq ?_
          refine Ex.cond_t rfl ?_
          refine Ex.skip ?_
          refine Ex.seq ?_
          refine Ex.block ?_
          have hkl : k < y.breaks.length := by omega
          refine Ex.regSeq (ExL.pures 0 rfl ?_)
          refine ExL.free (fr_indexAddrF (Reads.old hby) (eI_len .i64) rfl rfl rfl rfl rfl rfl (by omega)) rfl rfl rfl ?_
          refine ExL.free (fr_load rfl rfl rfl rfl (cellJ (i := ↑k) (k) (Reads.old hby) (eI_len .i64) 0 0 rfl (by omega) (by omega) rfl)) rfl rfl rfl ?_
          refine ExL.pures 1 rfl ?_
          refine ExL.nil ?_
          refine Ex.regSeq (ExL.pures 1 rfl ?_)
          refine ExL.free (fr_load rfl rfl rfl rfl (CellO.blk (i := 0) rfl rfl)) rfl rfl rfl ?_
          refine ExL.pures 1 rfl ?_
          refine ExL.op rfl (op_ret rfl rfl rfl (c_nIndex y.kept _ _ (by omega) (y.breaks.getD k 0)) (Reads.get (Reads.old hky)) rfl rfl (fun x16 hx16 => ?_))
          refine ExL.lss rfl rfl rfl rfl rfl rfl (fun h17 => ?_) (fun h17 => ?_)
          · refine ExL.nil ?_
            refine Ex.cond_t rfl ?_
            refine Ex.regSeq (ExL.pures 1 rfl ?_)
            refine ExL.nil ?_
            refine Ex.ret ?_
            refine RetQ.mk () rfl (.tmp rfl .nil) (tB (by first | exact told_n1 (by assumption) | exact told_n2 (by assumption) | exact told_n3 (by omega) (by omega) | exact told_n4 (k := k) (by omega) (mem_no hRk (by assumption)) | exact told_n4 (k := k) (by omega) (mem_hasn (by assumption)) | exact told_n4 (k := k) (by omega) (mem_fst hRk (by assumption)) | exact told_n5 (k := k) (by omega) ha hb_ (by first | assumption | (rw [← hbe]; assumption)) (by assumption) | exact told_end hRk hRb hpos hmem (fun j hj => hgap j (by omega)) (by omega))) [] (rfl) rfl (trivial)
          · refine ExL.nil ?_
            refine Ex.cond_f rfl ?_
            refine Ex.skip ?_
            refine Ex.region (ExL.pures 0 rfl ?_)
            refine ExL.free (by first | exact fr_add64 rfl rfl rfl (by omega) | exact fr_add rfl rfl rfl) rfl rfl rfl ?_
            refine ExL.pures 1 rfl ?_
            refine ExL.nil ?_
            refine Hand.mk (k + 1) 1 [0] ⟨rfl, trivial⟩ ⟨rfl, rfl, rfl, rfl, rfl, trivial⟩ (rfl) rfl (⟨by omega, all_snoc hall (mem_idx (by assumption))⟩) (by omega)
        · refine ExL.nil ?_
          refine Ex.seq ?_
          refine Ex.cond_f rfl ?_
          refine Ex.exit ?_
          have hmem : ∀ i, i < y.breaks.length → MemK y i := fun i hi => hall i (by omega)
          refine Ex.seq ?_
          refine Ex.regSeq (ExL.pures 1 rfl ?_)
          refine ExL.nil ?_
          refine Ex.block ?_
          refine Ex.loopK (X := Nat) (fun k => [(8, .int .i64 ((k : Int) + 1))]) (fun k => []) (fun k => (k + 1 ≤ y.kept.length ∨ k = 0) ∧ ∀ j, j < k → GapK (fit) y j) (fun k => y.kept.length - k) 0 [(0, _), (3, _), (5, _)] [_] 1 [0] ⟨rfl, trivial⟩ ⟨rfl, rfl, rfl, trivial⟩ (rfl) rfl ⟨.inr rfl, fun j hj => by omega⟩ (fun k hI => ?_)
          have hI : (k + 1 ≤ y.kept.length ∨ k = 0) ∧ ∀ j, j < k → GapK (fit) y j := hI
          obtain ⟨hk9, hgap⟩ := hI
          refine Ex.seq ?_
          refine Ex.regSeq (ExL.pures 2 rfl ?_)
          refine ExL.free (fr_load rfl rfl rfl rfl (CellO.blk (i := 0) rfl rfl)) rfl rfl rfl ?_
          refine ExL.pures 1 rfl ?_
          refine ExL.lss rfl rfl rfl rfl rfl rfl (fun h18 => ?_) (fun h18 => ?_)
          · refine ExL.nil ?_
            refine Ex.cond_t rfl ?_
            refine Ex.skip ?_
            refine Ex.seq ?_
            refine Ex.block ?_
            have hkl : k + 1 < y.kept.length := by omega
            obtain ⟨a, b_, ha, hb_, hab, hbn⟩ := hRk.nat (k := k) (by omega)
            obtain ⟨hxl, hbe⟩ := canK_bool hCK (i := a) (j := b_) (by omega) hab hbn
            refine Ex.drawSeqM rfl ?_
            refine ExD.take (i := 0) rfl (by kernel_rfl) (pureVal_ok rfl) ((List.Sublist.refl _)) rfl rfl rfl ?_
            refine ExD.take (i := 1) rfl (by kernel_rfl) (pureVal_ok rfl) ((List.Sublist.refl _)) rfl rfl rfl ?_
            refine ExD.take (i := 2) rfl (by kernel_rfl) (pureVal_ok rfl) ((List.Sublist.refl _)) rfl rfl rfl ?_
            refine ExD.take (i := 3) rfl (by kernel_rfl) (fr_load rfl rfl rfl rfl (CellO.at 2 (Reads.old hd) rfl)) ((List.Sublist.refl _)) rfl rfl rfl ?_
            refine ExD.take (i := 4) rfl (by kernel_rfl) (pureVal_ok rfl) ((List.Sublist.refl _)) rfl rfl rfl ?_
            refine ExD.take (i := 5) rfl (by kernel_rfl) (fr_load rfl rfl rfl rfl (CellO.blk (i := 0) rfl rfl)) ((List.Sublist.refl _)) rfl rfl rfl ?_
            refine ExD.take (i := 6) rfl (by kernel_rfl) (pureVal_ok rfl) ((List.Sublist.refl _)) rfl rfl rfl ?_
            refine ExD.take (i := 7) rfl (by kernel_rfl) (by first | exact fr_sub64 rfl rfl rfl (by omega) | exact fr_sub rfl rfl rfl) ((List.Sublist.refl _)) rfl rfl rfl ?_
            refine ExD.take (i := 8) rfl (by kernel_rfl) (fr_indexAddrF (Reads.old hky) (eI_len .i64) rfl rfl rfl rfl rfl rfl (by omega)) ((List.Sublist.refl _)) rfl rfl rfl ?_
            refine ExD.take (i := 9) rfl (by kernel_rfl) (fr_load (v := .int .i64 (a : Int)) rfl rfl rfl rfl (cellJ (i := ((k : Int) + 1 - 1)) k (Reads.old hky) (eI_len .i64) 0 0 rfl (by omega) (by omega) (by show some (Value.int .i64 _) = _; rw [ha]))) ((List.Sublist.refl _)) rfl rfl rfl ?_
            refine ExD.take (i := 10) rfl (by kernel_rfl) (fr_indexAddrE (sz := 1) hKl (Reads.old hc) encX_len rfl rfl rfl rfl rfl rfl (by omega)) ((List.Sublist.refl _)) rfl rfl rfl ?_
            refine ExD.take (i := 11) rfl (by kernel_rfl) (fr_load rfl rfl rfl rfl (cellJ (i := ↑a) (a) (Reads.old hc) encX_len zX 0 rfl (by omega) (by omega) rfl)) ((List.Sublist.refl _)) rfl rfl rfl ?_
            refine ExD.take (i := 12) rfl (by kernel_rfl) (pureVal_ok rfl) ((List.Sublist.refl _)) rfl rfl rfl ?_
            refine ExD.take (i := 13) rfl (by kernel_rfl) (fr_load rfl rfl rfl rfl (CellO.blk (i := 0) rfl rfl)) ((List.Sublist.refl _)) rfl rfl rfl ?_
            refine ExD.take (i := 14) rfl (by kernel_rfl) (pureVal_ok rfl) ((List.Sublist.refl _)) rfl rfl rfl ?_
            refine ExD.take (i := 15) rfl (by kernel_rfl) (fr_indexAddrF (Reads.old hky) (eI_len .i64) rfl rfl rfl rfl rfl rfl (by omega)) ((List.Sublist.refl _)) rfl rfl rfl ?_
            refine ExD.take (i := 16) rfl (by kernel_rfl) (fr_load (v := .int .i64 (b_ : Int)) rfl rfl rfl rfl (cellJ (i := ((k : Int) + 1)) (k + 1) (Reads.old hky) (eI_len .i64) 0 0 rfl (by omega) (by omega) (by show some (Value.int .i64 _) = _; rw [hb_]))) ((List.Sublist.refl _)) rfl rfl rfl ?_
            refine ExD.take (i := 17) rfl (by kernel_rfl) (fr_indexAddrF (Reads.old (hcr a (by omega))) eB_len rfl rfl rfl rfl rfl rfl (by omega)) ((List.Sublist.refl _)) rfl rfl rfl ?_
            refine ExD.take (i := 18) rfl (by kernel_rfl) (fr_load rfl rfl rfl rfl (cellJ (i := ↑b_) (b_) (Reads.old (hcr a (by omega))) eB_len false 0 rfl (by omega) (by omega) rfl)) ((List.Sublist.refl _)) rfl rfl rfl ?_
            refine ExD.take (i := 19) rfl (by kernel_rfl) (pureVal_ok rfl) ((List.Sublist.refl _)) rfl rfl rfl ?_
            refine ExD.take (i := 20) rfl (by kernel_rfl) (pureVal_ok rfl) ((List.Sublist.refl _)) rfl rfl rfl ?_
            refine ExD.bool (d := 76) rfl (fun hb19 => ?_) (fun hb19 => ?_)
            · replace hb19 := nb_t hb19
              refine ExD.take (i := 21) rfl (by kernel_rfl) (pureVal_ok rfl) ((List.Sublist.refl _)) rfl rfl rfl ?_
              refine ExD.take (i := 22) rfl (by kernel_rfl) (fr_load rfl rfl rfl rfl (CellO.blk (i := 0) rfl rfl)) ((List.Sublist.refl _)) rfl rfl rfl ?_
              refine ExD.take (i := 23) rfl (by kernel_rfl) (pureVal_ok rfl) ((List.Sublist.refl _)) rfl rfl rfl ?_
              refine ExD.take (i := 24) rfl (by kernel_rfl) (fr_load rfl rfl rfl rfl (CellO.blk (i := 0) rfl rfl)) ((List.Sublist.refl _)) rfl rfl rfl ?_
              refine ExD.take (i := 25) rfl (by kernel_rfl) (pureVal_ok rfl) ((List.Sublist.refl _)) rfl rfl rfl ?_
              refine ExD.take (i := 26) rfl (by kernel_rfl) (fr_indexAddrF (Reads.old hky) (eI_len .i64) rfl rfl rfl rfl rfl rfl (by omega)) ((List.Sublist.refl _)) rfl rfl rfl ?_
              refine ExD.take (i := 27) rfl (by kernel_rfl) (fr_load rfl rfl rfl rfl (cellJ (i := (↑k + 1)) ((k + 1)) (Reads.old hky) (eI_len .i64) 0 0 rfl (by omega) (by omega) rfl)) ((List.Sublist.refl _)) rfl rfl rfl ?_
              refine ExD.op (i := 28) rfl (by kernel_rfl) rfl (op_ret rfl rfl rfl (c_nContains y.breaks _ _ (by omega) (y.kept.getD (k + 1) 0)) (Reads.get (Reads.old hby)) rfl rfl (fun x20 hx20 => ⟨(List.Sublist.refl _), ?_⟩))
              refine ExD.take (i := 29) rfl (by kernel_rfl) (pureVal_ok rfl) ((List.Sublist.refl _)) rfl rfl rfl ?_
              refine ExD.take (i := 30) rfl (by kernel_rfl) (pureVal_ok rfl) ((List.Sublist.refl _)) rfl rfl rfl ?_
              refine ExD.done (by kernel_rfl) ?_
              refine Ex.cond rfl (fun hb21 => ?_) (fun hb21 => ?_)
              · replace hb21 := nb_t hb21
                refine Ex.regSeq (ExL.pures 1 rfl ?_)
                refine ExL.nil ?_
                refine Ex.ret ?_
                refine RetQ.mk () rfl (.tmp rfl .nil) (tB (by first | exact told_n1 (by assumption) | exact told_n2 (by assumption) | exact told_n3 (by omega) (by omega) | exact told_n4 (k := k) (by omega) (mem_no hRk (by assumption)) | exact told_n4 (k := k) (by omega) (mem_hasn (by assumption)) | exact told_n4 (k := k) (by omega) (mem_fst hRk (by assumption)) | exact told_n5 (k := k) (by omega) ha hb_ (by first | assumption | (rw [← hbe]; assumption)) (by assumption) | exact told_end hRk hRb hpos hmem (fun j hj => hgap j (by omega)) (by omega))) [] (rfl) rfl (trivial)
              · replace hb21 := nb_f hb21
                refine Ex.skip ?_
                refine Ex.region (ExL.pures 1 rfl ?_)
                refine ExL.free (by first | exact fr_add64 rfl rfl rfl (by omega) | exact fr_add rfl rfl rfl) rfl rfl rfl ?_
                refine ExL.pures 1 rfl ?_
                refine ExL.nil ?_
                refine Hand.mk (k + 1) 1 [0] ⟨agI (by omega), trivial⟩ ⟨rfl, rfl, rfl, trivial⟩ (rfl) rfl (⟨by omega, all_snoc hgap (by first | exact gap_1 ha hb_ (by first | assumption | (rw [← hbe]; assumption)) | exact gap_2 (by assumption))⟩) (by omega)
            · replace hb19 := nb_f hb19
              refine ExD.pass (i := 21) rfl (by kernel_rfl) ((List.Sublist.refl _)) rfl rfl rfl ?_
              refine ExD.pass (i := 22) rfl (by kernel_rfl) ((List.Sublist.refl _)) rfl rfl rfl ?_
              refine ExD.pass (i := 23) rfl (by kernel_rfl) ((List.Sublist.refl _)) rfl rfl rfl ?_
              refine ExD.pass (i := 24) rfl (by kernel_rfl) ((List.Sublist.refl _)) rfl rfl rfl ?_
              refine ExD.pass (i := 25) rfl (by kernel_rfl) ((List.Sublist.refl _)) rfl rfl rfl ?_
              refine ExD.pass (i := 26) rfl (by kernel_rfl) ((List.Sublist.refl _)) rfl rfl rfl ?_
              refine ExD.pass (i := 27) rfl (by kernel_rfl) ((List.Sublist.refl _)) rfl rfl rfl ?_
              refine ExD.pass (i := 28) rfl (by kernel_rfl) ((List.Sublist.refl _)) rfl rfl rfl ?_
              refine ExD.pass (i := 29) rfl (by kernel_rfl) ((List.Sublist.refl _)) rfl rfl rfl ?_
              refine ExD.take (i := 30) rfl (by kernel_rfl) (pureVal_ok rfl) ((List.Sublist.refl _)) rfl rfl rfl ?_
              refine ExD.done (by kernel_rfl) ?_
              refine Ex.cond_f rfl ?_
              refine Ex.skip ?_
              refine Ex.region (ExL.pures 1 rfl ?_)
              refine ExL.free (by first | exact fr_add64 rfl rfl rfl (by omega) | exact fr_add rfl rfl rfl) rfl rfl rfl ?_
              refine ExL.pures 1 rfl ?_
              refine ExL.nil ?_
              refine Hand.mk (k + 1) 1 [0] ⟨agI (by omega), trivial⟩ ⟨rfl, rfl, rfl, trivial⟩ (rfl) rfl (⟨by omega, all_snoc hgap (by first | exact gap_1 ha hb_ (by first | assumption | (rw [← hbe]; assumption)) | exact gap_2 (by assumption))⟩) (by omega)
          · refine ExL.nil ?_
            refine Ex.cond_f rfl ?_
            refine Ex.exit ?_
            refine Ex.regSeq (ExL.pures 1 rfl ?_)
            refine ExL.free (fr_load rfl rfl rfl rfl (CellO.blk (i := 0) rfl rfl)) rfl rfl rfl ?_
            refine ExL.pures 2 rfl ?_
            refine ExL.free (fr_load rfl rfl rfl rfl (CellO.blk (i := 0) rfl rfl)) rfl rfl rfl ?_
            refine ExL.pures 1 rfl ?_
            refine ExL.free (by first | exact fr_sub64 rfl rfl rfl (by omega) | exact fr_sub rfl rfl rfl) rfl rfl rfl ?_
            refine ExL.free (by first | exact fr_mul64 rfl rfl rfl (by omega) | exact fr_mul rfl rfl rfl) rfl rfl rfl ?_
            refine ExL.pures 1 rfl ?_
            refine ExL.free (fr_load rfl rfl rfl rfl (CellO.blk (i := 0) rfl rfl)) rfl rfl rfl ?_
            refine ExL.pures 1 rfl ?_
            refine ExL.free (by first | exact fr_mul64 rfl rfl rfl (by omega) | exact fr_mul rfl rfl rfl) rfl rfl rfl ?_
            refine ExL.free (by first | exact fr_add64 rfl rfl rfl (by omega) | exact fr_add rfl rfl rfl) rfl rfl rfl ?_
            refine ExL.free (fr_eql rfl rfl rfl) rfl rfl rfl ?_
            refine ExL.pures 1 rfl ?_
            refine ExL.nil ?_
            refine Ex.ret ?_
            refine RetQ.mk () rfl (.tmp rfl .nil) (tB (by first | exact told_n1 (by assumption) | exact told_n2 (by assumption) | exact told_n3 (by omega) (by omega) | exact told_n4 (k := k) (by omega) (mem_no hRk (by assumption)) | exact told_n4 (k := k) (by omega) (mem_hasn (by assumption)) | exact told_n4 (k := k) (by omega) (mem_fst hRk (by assumption)) | exact told_n5 (k := k) (by omega) ha hb_ (by first | assumption | (rw [← hbe]; assumption)) (by assumption) | exact told_end hRk hRb hpos hmem (fun j hj => hgap j (by omega)) (by omega))) [] (rfl) rfl (trivial)
end Go.Proofs.YtddflaaccmjoeaaGreatDoor

/- What these functions of the program hand back, each proved by walking its operations. -/
set_option linter.unusedVariables false
set_option linter.unusedSimpArgs false
set_option maxRecDepth 4000
namespace Go.Proofs.YtddflaaccmjoeaaGreatDoor
open Go Go.Sx Go.RowKit Go.W Go.Proofs
attribute [local irreducible] Ex ExL ExD Op1 Free RetQ MutQ Reads CellO SegO LoadsAs
theorem e_52 : Enters Tryz.prog 52 := Enters.of Tryz.func52 rfl
set_option maxHeartbeats 1000000 in
theorem c_l04Told (s : List Int) (hu : Nums 255 s) (As : Option Addr) (cs : Nat) (hls : s.length ≤ maxLen) (l : List VP) (Al : Option Addr) (cl : Nat) (hll : l.length ≤ maxLen) (f : VP) (hask : askS s l f = true) (y : VSt) (Y1 : Option Addr) (yc1 : Nat) (Y2 : Option Addr) (yc2 : Nat) (hy : y.kept.length ≤ 1000 ∧ y.breaks.length ≤ 1000) (bb : Nat) : Ret Tryz.prog 52 [.slice As s.length cs, .slice Al l.length cl, .agg (encP f).toArray, .pointer (some ⟨bb, 0, none⟩)] (fun w => (Rd w As (s.flatMap (eI .u8)) ∧ Rd w Al (l.flatMap encP)) ∧ Rd w (some ⟨bb, 0, none⟩) (encY Y1 yc1 Y2 yc2 y) ∧ Rd w Y1 (y.kept.flatMap (eI .i64)) ∧ Rd w Y2 (y.breaks.flatMap (eI .i64))) (fun x : Unit => .bool (toldB (fitsF s l f) l.length y)) (fun x => []) (fun x => True) := by
  refine Ret.of e_52 Tryz.func52 rfl Tryz.ntmps52 rfl rfl (fun w hpre => ?_)
  have hst := hpre.2.1.base
  have hky := hpre.2.2.1.base
  have hby := hpre.2.2.2.base
  have hs := hpre.1.1.base
  have hl := hpre.1.2.base
  have hm0 : maxLen = 9223372036854775807 := rfl
  obtain ⟨hL, hf⟩ := ask_of hask
  have hLl := hL.len
  obtain ⟨hy1, hy2⟩ := hy
  refine Ex.regSeq (ExL.pures 0 rfl ?_)
  refine ExL.op rfl (op_box rfl rfl rfl rfl rfl (fun b1 => ?_))
  refine ExL.pures 1 rfl ?_
  refine ExL.nil ?_
  refine Ex.regSeq (ExL.pures 3 rfl ?_)
  refine ExL.nil ?_
  refine Ex.regSeq (ExL.pures 3 rfl ?_)
  refine ExL.free (fr_load rfl rfl rfl rfl (CellO.at 0 (Reads.old hst) rfl)) rfl rfl rfl ?_
  refine ExL.pures 2 rfl ?_
  refine ExL.nil ?_
  refine Ex.seq ?_
  refine Ex.regSeq (ExL.pures 3 rfl ?_)
  refine ExL.free (fr_load rfl rfl rfl rfl (CellO.at 0 (Reads.old hst) rfl)) rfl rfl rfl ?_
  refine ExL.pures 1 rfl ?_
  refine ExL.op rfl (op_ret rfl rfl rfl (c_l04Rising y.kept _ _ (by omega) l.length (by omega)) (Reads.get (Reads.old hky)) rfl rfl (fun x2 hx2 => ?_))
  refine ExL.pures 2 rfl ?_
  refine ExL.bool (d := 27) rfl (fun hb3 => ?_) (fun hb3 => ?_)
  · replace hb3 := nb_t hb3
    refine ExL.pures 16 rfl ?_
    refine ExL.nil ?_
    refine Ex.cond_t rfl ?_
    refine Ex.regSeq (ExL.pures 1 rfl ?_)
    refine ExL.nil ?_
    refine Ex.ret ?_
    refine RetQ.mk () rfl (.tmp rfl .nil) (tB (by first | exact told_n1 (by assumption) | exact told_n2 (by assumption) | exact told_n3 (by omega) (by omega) | exact told_n4 (k := k) (by omega) (mem_no hRk (by assumption)) | exact told_n4 (k := k) (by omega) (mem_hasn (by assumption)) | exact told_n4 (k := k) (by omega) (mem_fst hRk (by assumption)) | exact told_n5 (k := k) (by omega) ha hb_ (by first | assumption | (rw [← hbe]; assumption)) (by assumption) | exact told_end hRk hRb hpos hmem (fun j hj => hgap j (by omega)) (by omega))) [] (rfl) rfl (trivial)
  · replace hb3 := nb_f hb3
    refine ExL.pures 3 rfl ?_
    refine ExL.free (fr_load rfl rfl rfl rfl (CellO.at 1 (Reads.old hst) rfl)) rfl rfl rfl ?_
    refine ExL.pures 1 rfl ?_
    refine ExL.op rfl (op_ret rfl rfl rfl (c_l04Rising y.breaks _ _ (by omega) l.length (by omega)) (Reads.get (Reads.old hby)) rfl rfl (fun x4 hx4 => ?_))
    refine ExL.pures 3 rfl ?_
    refine ExL.bool (d := 36) rfl (fun hb5 => ?_) (fun hb5 => ?_)
    · replace hb5 := nb_t hb5
      refine ExL.pures 7 rfl ?_
      refine ExL.nil ?_
      refine Ex.cond_t rfl ?_
      refine Ex.regSeq (ExL.pures 1 rfl ?_)
      refine ExL.nil ?_
      refine Ex.ret ?_
      refine RetQ.mk () rfl (.tmp rfl .nil) (tB (by first | exact told_n1 (by assumption) | exact told_n2 (by assumption) | exact told_n3 (by omega) (by omega) | exact told_n4 (k := k) (by omega) (mem_no hRk (by assumption)) | exact told_n4 (k := k) (by omega) (mem_hasn (by assumption)) | exact told_n4 (k := k) (by omega) (mem_fst hRk (by assumption)) | exact told_n5 (k := k) (by omega) ha hb_ (by first | assumption | (rw [← hbe]; assumption)) (by assumption) | exact told_end hRk hRb hpos hmem (fun j hj => hgap j (by omega)) (by omega))) [] (rfl) rfl (trivial)
    · replace hb5 := nb_f hb5
      refine ExL.pures 1 rfl ?_
      refine ExL.eql rfl rfl rfl rfl rfl rfl (fun h6 => ?_) (fun h6 => ?_)
      · refine ExL.pures 2 rfl ?_
        refine ExL.gtr rfl rfl rfl rfl rfl rfl (fun h7 => ?_) (fun h7 => ?_)
        · refine ExL.pures 2 rfl ?_
          refine ExL.nil ?_
          refine Ex.cond_t rfl ?_
          refine Ex.regSeq (ExL.pures 1 rfl ?_)
          refine ExL.nil ?_
          refine Ex.ret ?_
          refine RetQ.mk () rfl (.tmp rfl .nil) (tB (by first | exact told_n1 (by assumption) | exact told_n2 (by assumption) | exact told_n3 (by omega) (by omega) | exact told_n4 (k := k) (by omega) (mem_no hRk (by assumption)) | exact told_n4 (k := k) (by omega) (mem_hasn (by assumption)) | exact told_n4 (k := k) (by omega) (mem_fst hRk (by assumption)) | exact told_n5 (k := k) (by omega) ha hb_ (by first | assumption | (rw [← hbe]; assumption)) (by assumption) | exact told_end hRk hRb hpos hmem (fun j hj => hgap j (by omega)) (by omega))) [] (rfl) rfl (trivial)
        · refine ExL.pures 2 rfl ?_
          refine ExL.nil ?_
          refine Ex.cond_f rfl ?_
          refine Ex.skip ?_
          refine Ex.seq ?_
          have hRk := risB_t.1 (by assumption : risB l.length y.kept = true)
          have hRb := risB_t.1 (by assumption : risB l.length y.breaks = true)
          have hpos : 0 < l.length → 0 < y.kept.length := fun h0 => by omega
          have hkln := hRk.len
          have hbln := hRb.len
          refine Ex.regSeq (ExL.pures 1 rfl ?_)
          refine ExL.nil ?_
          refine Ex.block ?_
          refine Ex.loopK (X := Nat) (fun k => [(11, .int .i64 k)]) (fun k => []) (fun k => k ≤ y.breaks.length ∧ ∀ i, i < k → MemK y i) (fun k => y.breaks.length - k) 0 [(0, _), (1, _), (3, _), (6, _), (9, _), (10, _)] [_] 1 [0] ⟨rfl, trivial⟩ ⟨rfl, rfl, rfl, rfl, rfl, rfl, trivial⟩ (rfl) rfl ⟨Nat.zero_le _, fun i hi => by omega⟩ (fun k hI => ?_)
          have hI : k ≤ y.breaks.length ∧ ∀ i, i < k → MemK y i := hI
          obtain ⟨hk9, hall⟩ := hI
          refine Ex.seq ?_
          refine Ex.regSeq (ExL.pures 4 rfl ?_)
          refine ExL.free (fr_load rfl rfl rfl rfl (CellO.at 1 (Reads.old hst) rfl)) rfl rfl rfl ?_
          refine ExL.pures 1 rfl ?_
          refine ExL.lss rfl rfl rfl rfl rfl rfl (fun h8 => ?_) (fun h8 => ?_)
          · refine ExL.nil ?_
            refine Ex.cond_t rfl ?_
            refine Ex.skip ?_
            refine Ex.seq ?_
            refine Ex.block ?_
            have hkl : k < y.breaks.length := by omega
            refine Ex.drawSeqM rfl ?_
            refine ExD.take (i := 0) rfl (by kernel_rfl) (pureVal_ok rfl) ((List.Sublist.refl _)) rfl rfl rfl ?_
            refine ExD.take (i := 1) rfl (by kernel_rfl) (pureVal_ok rfl) ((List.Sublist.refl _)) rfl rfl rfl ?_
            refine ExD.take (i := 2) rfl (by kernel_rfl) (pureVal_ok rfl) ((List.Sublist.refl _)) rfl rfl rfl ?_
            refine ExD.take (i := 3) rfl (by kernel_rfl) (fr_load rfl rfl rfl rfl (CellO.at 0 (Reads.old hst) rfl)) ((List.Sublist.refl _)) rfl rfl rfl ?_
            refine ExD.take (i := 4) rfl (by kernel_rfl) (pureVal_ok rfl) ((List.Sublist.refl _)) rfl rfl rfl ?_
            refine ExD.take (i := 5) rfl (by kernel_rfl) (pureVal_ok rfl) ((List.Sublist.refl _)) rfl rfl rfl ?_
            refine ExD.take (i := 6) rfl (by kernel_rfl) (pureVal_ok rfl) ((List.Sublist.refl _)) rfl rfl rfl ?_
            refine ExD.take (i := 7) rfl (by kernel_rfl) (fr_load rfl rfl rfl rfl (CellO.at 1 (Reads.old hst) rfl)) ((List.Sublist.refl _)) rfl rfl rfl ?_
            refine ExD.take (i := 8) rfl (by kernel_rfl) (pureVal_ok rfl) ((List.Sublist.refl _)) rfl rfl rfl ?_
            refine ExD.take (i := 9) rfl (by kernel_rfl) (fr_indexAddrF (Reads.old hby) (eI_len .i64) rfl rfl rfl rfl rfl rfl (by omega)) ((List.Sublist.refl _)) rfl rfl rfl ?_
            refine ExD.take (i := 10) rfl (by kernel_rfl) (fr_load rfl rfl rfl rfl (cellJ (i := ↑k) (k) (Reads.old hby) (eI_len .i64) 0 0 rfl (by omega) (by omega) rfl)) ((List.Sublist.refl _)) rfl rfl rfl ?_
            refine ExD.op (i := 11) rfl (by kernel_rfl) rfl (op_ret rfl rfl rfl (c_l04Has y.kept _ _ (by omega) (y.breaks.getD k 0)) (Reads.get (Reads.old hky)) rfl rfl (fun x9 hx9 => ⟨(List.Sublist.refl _), ?_⟩))
            refine ExD.take (i := 12) rfl (by kernel_rfl) (pureVal_ok rfl) ((List.Sublist.refl _)) rfl rfl rfl ?_
            refine ExD.take (i := 13) rfl (by kernel_rfl) (pureVal_ok rfl) ((List.Sublist.refl _)) rfl rfl rfl ?_
            refine ExD.bool (d := 66) rfl (fun hb10 => ?_) (fun hb10 => ?_)
            · replace hb10 := nb_t hb10
              refine ExD.pass (i := 14) rfl (by kernel_rfl) ((List.Sublist.refl _)) rfl rfl rfl ?_
              refine ExD.pass (i := 15) rfl (by kernel_rfl) ((List.Sublist.refl _)) rfl rfl rfl ?_
              refine ExD.pass (i := 16) rfl (by kernel_rfl) ((List.Sublist.refl _)) rfl rfl rfl ?_
              refine ExD.pass (i := 17) rfl (by kernel_rfl) ((List.Sublist.refl _)) rfl rfl rfl ?_
              refine ExD.pass (i := 18) rfl (by kernel_rfl) ((List.Sublist.refl _)) rfl rfl rfl ?_
              refine ExD.pass (i := 19) rfl (by kernel_rfl) ((List.Sublist.refl _)) rfl rfl rfl ?_
              refine ExD.pass (i := 20) rfl (by kernel_rfl) ((List.Sublist.refl _)) rfl rfl rfl ?_
              refine ExD.pass (i := 21) rfl (by kernel_rfl) ((List.Sublist.refl _)) rfl rfl rfl ?_
              refine ExD.pass (i := 22) rfl (by kernel_rfl) ((List.Sublist.refl _)) rfl rfl rfl ?_
              refine ExD.pass (i := 23) rfl (by kernel_rfl) ((List.Sublist.refl _)) rfl rfl rfl ?_
              refine ExD.pass (i := 24) rfl (by kernel_rfl) ((List.Sublist.refl _)) rfl rfl rfl ?_
              refine ExD.pass (i := 25) rfl (by kernel_rfl) ((List.Sublist.refl _)) rfl rfl rfl ?_
              refine ExD.pass (i := 26) rfl (by kernel_rfl) ((List.Sublist.refl _)) rfl rfl rfl ?_
              refine ExD.pass (i := 27) rfl (by kernel_rfl) ((List.Sublist.refl _)) rfl rfl rfl ?_
              refine ExD.take (i := 28) rfl (by kernel_rfl) (pureVal_ok rfl) ((List.Sublist.refl _)) rfl rfl rfl ?_
              refine ExD.done (by kernel_rfl) ?_
              refine Ex.cond_t rfl ?_
              refine Ex.regSeq (ExL.pures 1 rfl ?_)
              refine ExL.nil ?_
              refine Ex.ret ?_
              refine RetQ.mk () rfl (.tmp rfl .nil) (tB (by first | exact told_n1 (by assumption) | exact told_n2 (by assumption) | exact told_n3 (by omega) (by omega) | exact told_n4 (k := k) (by omega) (mem_no hRk (by assumption)) | exact told_n4 (k := k) (by omega) (mem_hasn (by assumption)) | exact told_n4 (k := k) (by omega) (mem_fst hRk (by assumption)) | exact told_n5 (k := k) (by omega) ha hb_ (by first | assumption | (rw [← hbe]; assumption)) (by assumption) | exact told_end hRk hRb hpos hmem (fun j hj => hgap j (by omega)) (by omega))) [] (rfl) rfl (trivial)
            · replace hb10 := nb_f hb10
              refine ExD.take (i := 14) rfl (by kernel_rfl) (pureVal_ok rfl) ((List.Sublist.refl _)) rfl rfl rfl ?_
              refine ExD.take (i := 15) rfl (by kernel_rfl) (pureVal_ok rfl) ((List.Sublist.refl _)) rfl rfl rfl ?_
              refine ExD.take (i := 16) rfl (by kernel_rfl) (pureVal_ok rfl) ((List.Sublist.refl _)) rfl rfl rfl ?_
              refine ExD.take (i := 17) rfl (by kernel_rfl) (fr_load rfl rfl rfl rfl (CellO.at 1 (Reads.old hst) rfl)) ((List.Sublist.refl _)) rfl rfl rfl ?_
              refine ExD.take (i := 18) rfl (by kernel_rfl) (pureVal_ok rfl) ((List.Sublist.refl _)) rfl rfl rfl ?_
              refine ExD.take (i := 19) rfl (by kernel_rfl) (fr_indexAddrF (Reads.old hby) (eI_len .i64) rfl rfl rfl rfl rfl rfl (by omega)) ((List.Sublist.refl _)) rfl rfl rfl ?_
              refine ExD.take (i := 20) rfl (by kernel_rfl) (fr_load rfl rfl rfl rfl (cellJ (i := ↑k) (k) (Reads.old hby) (eI_len .i64) 0 0 rfl (by omega) (by omega) rfl)) ((List.Sublist.refl _)) rfl rfl rfl ?_
              refine ExD.take (i := 21) rfl (by kernel_rfl) (pureVal_ok rfl) ((List.Sublist.refl _)) rfl rfl rfl ?_
              refine ExD.take (i := 22) rfl (by kernel_rfl) (pureVal_ok rfl) ((List.Sublist.refl _)) rfl rfl rfl ?_
              refine ExD.take (i := 23) rfl (by kernel_rfl) (pureVal_ok rfl) ((List.Sublist.refl _)) rfl rfl rfl ?_
              refine ExD.take (i := 24) rfl (by kernel_rfl) (fr_load rfl rfl rfl rfl (CellO.at 0 (Reads.old hst) rfl)) ((List.Sublist.refl _)) rfl rfl rfl ?_
              refine ExD.take (i := 25) rfl (by kernel_rfl) (fr_indexAddrF (Reads.old hky) (eI_len .i64) rfl rfl rfl rfl rfl rfl (by omega)) ((List.Sublist.refl _)) rfl rfl rfl ?_
              refine ExD.take (i := 26) rfl (by kernel_rfl) (fr_load rfl rfl rfl rfl (cellJ (i := 0) 0 (Reads.old hky) (eI_len .i64) 0 0 rfl (by omega) (by omega) rfl)) ((List.Sublist.refl _)) rfl rfl rfl ?_
              refine ExD.cmp_eql (i := 27) rfl (by kernel_rfl) rfl rfl rfl ((List.Sublist.refl _)) rfl rfl rfl (fun h11 => ?_) (fun h11 => ?_)
              · refine ExD.take (i := 28) rfl (by kernel_rfl) (pureVal_ok rfl) ((List.Sublist.refl _)) rfl rfl rfl ?_
                refine ExD.done (by kernel_rfl) ?_
                refine Ex.cond_t rfl ?_
                refine Ex.regSeq (ExL.pures 1 rfl ?_)
                refine ExL.nil ?_
                refine Ex.ret ?_
                refine RetQ.mk () rfl (.tmp rfl .nil) (tB (by first | exact told_n1 (by assumption) | exact told_n2 (by assumption) | exact told_n3 (by omega) (by omega) | exact told_n4 (k := k) (by omega) (mem_no hRk (by assumption)) | exact told_n4 (k := k) (by omega) (mem_hasn (by assumption)) | exact told_n4 (k := k) (by omega) (mem_fst hRk (by assumption)) | exact told_n5 (k := k) (by omega) ha hb_ (by first | assumption | (rw [← hbe]; assumption)) (by assumption) | exact told_end hRk hRb hpos hmem (fun j hj => hgap j (by omega)) (by omega))) [] (rfl) rfl (trivial)
              · refine ExD.take (i := 28) rfl (by kernel_rfl) (pureVal_ok rfl) ((List.Sublist.refl _)) rfl rfl rfl ?_
                refine ExD.done (by kernel_rfl) ?_
                refine Ex.cond_f rfl ?_
                refine Ex.skip ?_
                refine Ex.region (ExL.pures 1 rfl ?_)
                refine ExL.free (by first | exact fr_add64 rfl rfl rfl (by omega) | exact fr_add rfl rfl rfl) rfl rfl rfl ?_
                refine ExL.pures 1 rfl ?_
                refine ExL.nil ?_
                refine Hand.mk (k + 1) 1 [0] ⟨rfl, trivial⟩ ⟨rfl, rfl, rfl, rfl, rfl, rfl, trivial⟩ (rfl) rfl (⟨by omega, all_snoc hall (mem_has (by assumption) (by assumption))⟩) (by omega)
          · refine ExL.nil ?_
            refine Ex.cond_f rfl ?_
            refine Ex.exit ?_
            have hmem : ∀ i, i < y.breaks.length → MemK y i := fun i hi => hall i (by omega)
            refine Ex.seq ?_
            refine Ex.regSeq (ExL.pures 1 rfl ?_)
            refine ExL.nil ?_
            refine Ex.block ?_
            refine Ex.loopK (X := Nat) (fun k => [(12, .int .i64 ((k : Int) + 1))]) (fun k => []) (fun k => (k + 1 ≤ y.kept.length ∨ k = 0) ∧ ∀ j, j < k → GapK (fitsF s l f) y j) (fun k => y.kept.length - k) 0 [(0, _), (1, _), (3, _), (6, _), (9, _), (10, _)] [_] 1 [0] ⟨rfl, trivial⟩ ⟨rfl, rfl, rfl, rfl, rfl, rfl, trivial⟩ (rfl) rfl ⟨.inr rfl, fun j hj => by omega⟩ (fun k hI => ?_)
            have hI : (k + 1 ≤ y.kept.length ∨ k = 0) ∧ ∀ j, j < k → GapK (fitsF s l f) y j := hI
            obtain ⟨hk9, hgap⟩ := hI
            refine Ex.seq ?_
            refine Ex.regSeq (ExL.pures 2 rfl ?_)
            refine ExL.lss rfl rfl rfl rfl rfl rfl (fun h12 => ?_) (fun h12 => ?_)
            · refine ExL.nil ?_
              refine Ex.cond_t rfl ?_
              refine Ex.skip ?_
              refine Ex.seq ?_
              refine Ex.block ?_
              have hkl : k + 1 < y.kept.length := by omega
              obtain ⟨a, b_, ha, hb_, hab, hbn⟩ := hRk.nat (k := k) (by omega)
              refine Ex.drawSeqM rfl ?_
              refine ExD.take (i := 0) rfl (by kernel_rfl) (pureVal_ok rfl) ((List.Sublist.refl _)) rfl rfl rfl ?_
              refine ExD.take (i := 1) rfl (by kernel_rfl) (pureVal_ok rfl) ((List.Sublist.refl _)) rfl rfl rfl ?_
              refine ExD.take (i := 2) rfl (by kernel_rfl) (pureVal_ok rfl) ((List.Sublist.refl _)) rfl rfl rfl ?_
              refine ExD.take (i := 3) rfl (by kernel_rfl) (fr_load rfl rfl rfl rfl (CellO.at 1 (Reads.old hst) rfl)) ((List.Sublist.refl _)) rfl rfl rfl ?_
              refine ExD.take (i := 4) rfl (by kernel_rfl) (pureVal_ok rfl) ((List.Sublist.refl _)) rfl rfl rfl ?_
              refine ExD.take (i := 5) rfl (by kernel_rfl) (pureVal_ok rfl) ((List.Sublist.refl _)) rfl rfl rfl ?_
              refine ExD.take (i := 6) rfl (by kernel_rfl) (pureVal_ok rfl) ((List.Sublist.refl _)) rfl rfl rfl ?_
              refine ExD.take (i := 7) rfl (by kernel_rfl) (fr_load rfl rfl rfl rfl (CellO.at 0 (Reads.old hst) rfl)) ((List.Sublist.refl _)) rfl rfl rfl ?_
              refine ExD.take (i := 8) rfl (by kernel_rfl) (pureVal_ok rfl) ((List.Sublist.refl _)) rfl rfl rfl ?_
              refine ExD.take (i := 9) rfl (by kernel_rfl) (fr_indexAddrF (Reads.old hky) (eI_len .i64) rfl rfl rfl rfl rfl rfl (by omega)) ((List.Sublist.refl _)) rfl rfl rfl ?_
              refine ExD.take (i := 10) rfl (by kernel_rfl) (fr_load rfl rfl rfl rfl (cellJ (i := (↑k + 1)) ((k + 1)) (Reads.old hky) (eI_len .i64) 0 0 rfl (by omega) (by omega) rfl)) ((List.Sublist.refl _)) rfl rfl rfl ?_
              refine ExD.op (i := 11) rfl (by kernel_rfl) rfl (op_ret rfl rfl rfl (c_l04Has y.breaks _ _ (by omega) (y.kept.getD (k + 1) 0)) (Reads.get (Reads.old hby)) rfl rfl (fun x13 hx13 => ⟨(List.Sublist.refl _), ?_⟩))
              refine ExD.take (i := 12) rfl (by kernel_rfl) (pureVal_ok rfl) ((List.Sublist.refl _)) rfl rfl rfl ?_
              refine ExD.take (i := 13) rfl (by kernel_rfl) (pureVal_ok rfl) ((List.Sublist.refl _)) rfl rfl rfl ?_
              refine ExD.bool (d := 100) rfl (fun hb14 => ?_) (fun hb14 => ?_)
              · replace hb14 := nb_t hb14
                refine ExD.take (i := 14) rfl (by kernel_rfl) (pureVal_ok rfl) ((List.Sublist.refl _)) rfl rfl rfl ?_
                refine ExD.take (i := 15) rfl (by kernel_rfl) (pureVal_ok rfl) ((List.Sublist.refl _)) rfl rfl rfl ?_
                refine ExD.take (i := 16) rfl (by kernel_rfl) (fr_loadN rfl rfl rfl rfl rfl (SegO.whole (i := 0) rfl)) ((List.Sublist.refl _)) rfl rfl rfl ?_
                refine ExD.take (i := 17) rfl (by kernel_rfl) (pureVal_ok rfl) ((List.Sublist.refl _)) rfl rfl rfl ?_
                refine ExD.take (i := 18) rfl (by kernel_rfl) (pureVal_ok rfl) ((List.Sublist.refl _)) rfl rfl rfl ?_
                refine ExD.take (i := 19) rfl (by kernel_rfl) (pureVal_ok rfl) ((List.Sublist.refl _)) rfl rfl rfl ?_
                refine ExD.take (i := 20) rfl (by kernel_rfl) (fr_load rfl rfl rfl rfl (CellO.at 0 (Reads.old hst) rfl)) ((List.Sublist.refl _)) rfl rfl rfl ?_
                refine ExD.take (i := 21) rfl (by kernel_rfl) (pureVal_ok rfl) ((List.Sublist.refl _)) rfl rfl rfl ?_
                refine ExD.take (i := 22) rfl (by kernel_rfl) (by first | exact fr_sub64 rfl rfl rfl (by omega) | exact fr_sub rfl rfl rfl) ((List.Sublist.refl _)) rfl rfl rfl ?_
                refine ExD.take (i := 23) rfl (by kernel_rfl) (fr_indexAddrF (Reads.old hky) (eI_len .i64) rfl rfl rfl rfl rfl rfl (by omega)) ((List.Sublist.refl _)) rfl rfl rfl ?_
                refine ExD.take (i := 24) rfl (by kernel_rfl) (fr_load (v := .int .i64 (a : Int)) rfl rfl rfl rfl (cellJ (i := ((k : Int) + 1 - 1)) k (Reads.old hky) (eI_len .i64) 0 0 rfl (by omega) (by omega) (by show some (Value.int .i64 _) = _; rw [ha]))) ((List.Sublist.refl _)) rfl rfl rfl ?_
                refine ExD.take (i := 25) rfl (by kernel_rfl) (pureVal_ok rfl) ((List.Sublist.refl _)) rfl rfl rfl ?_
                refine ExD.take (i := 26) rfl (by kernel_rfl) (pureVal_ok rfl) ((List.Sublist.refl _)) rfl rfl rfl ?_
                refine ExD.take (i := 27) rfl (by kernel_rfl) (pureVal_ok rfl) ((List.Sublist.refl _)) rfl rfl rfl ?_
                refine ExD.take (i := 28) rfl (by kernel_rfl) (fr_load rfl rfl rfl rfl (CellO.at 0 (Reads.old hst) rfl)) ((List.Sublist.refl _)) rfl rfl rfl ?_
                refine ExD.take (i := 29) rfl (by kernel_rfl) (pureVal_ok rfl) ((List.Sublist.refl _)) rfl rfl rfl ?_
                refine ExD.take (i := 30) rfl (by kernel_rfl) (fr_indexAddrF (Reads.old hky) (eI_len .i64) rfl rfl rfl rfl rfl rfl (by omega)) ((List.Sublist.refl _)) rfl rfl rfl ?_
                refine ExD.take (i := 31) rfl (by kernel_rfl) (fr_load (v := .int .i64 (b_ : Int)) rfl rfl rfl rfl (cellJ (i := ((k : Int) + 1)) (k + 1) (Reads.old hky) (eI_len .i64) 0 0 rfl (by omega) (by omega) (by show some (Value.int .i64 _) = _; rw [hb_]))) ((List.Sublist.refl _)) rfl rfl rfl ?_
                refine ExD.op (i := 32) rfl (by kernel_rfl) rfl (op_ret rfl rfl rfl (c_l04Fits s (by assumption) _ _ (by omega) l _ _ (by omega) (by assumption) f (by assumption) a b_ (by omega) (by omega)) (fun w hw => ⟨Reads.get (Reads.old hs) w hw, Reads.get (Reads.old hl) w hw⟩) rfl rfl (fun x15 hx15 => ⟨(List.Sublist.refl _), ?_⟩))
                refine ExD.take (i := 33) rfl (by kernel_rfl) (pureVal_ok rfl) ((List.Sublist.refl _)) rfl rfl rfl ?_
                refine ExD.take (i := 34) rfl (by kernel_rfl) (pureVal_ok rfl) ((List.Sublist.refl _)) rfl rfl rfl ?_
                refine ExD.done (by kernel_rfl) ?_
                refine Ex.cond rfl (fun hb16 => ?_) (fun hb16 => ?_)
                · replace hb16 := nb_t hb16
                  refine Ex.regSeq (ExL.pures 1 rfl ?_)
                  refine ExL.nil ?_
                  refine Ex.ret ?_
                  refine RetQ.mk () rfl (.tmp rfl .nil) (tB (by first | exact told_n1 (by assumption) | exact told_n2 (by assumption) | exact told_n3 (by omega) (by omega) | exact told_n4 (k := k) (by omega) (mem_no hRk (by assumption)) | exact told_n4 (k := k) (by omega) (mem_hasn (by assumption)) | exact told_n4 (k := k) (by omega) (mem_fst hRk (by assumption)) | exact told_n5 (k := k) (by omega) ha hb_ (by first | assumption | (rw [← hbe]; assumption)) (by assumption) | exact told_end hRk hRb hpos hmem (fun j hj => hgap j (by omega)) (by omega))) [] (rfl) rfl (trivial)
                · replace hb16 := nb_f hb16
                  refine Ex.skip ?_
                  refine Ex.region (ExL.pures 1 rfl ?_)
                  refine ExL.free (by first | exact fr_add64 rfl rfl rfl (by omega) | exact fr_add rfl rfl rfl) rfl rfl rfl ?_
                  refine ExL.pures 1 rfl ?_
                  refine ExL.nil ?_
                  refine Hand.mk (k + 1) 1 [0] ⟨agI (by omega), trivial⟩ ⟨rfl, rfl, rfl, rfl, rfl, rfl, trivial⟩ (rfl) rfl (⟨by omega, all_snoc hgap (by first | exact gap_1 ha hb_ (by first | assumption | (rw [← hbe]; assumption)) | exact gap_2 (by assumption))⟩) (by omega)
              · replace hb14 := nb_f hb14
                refine ExD.pass (i := 14) rfl (by kernel_rfl) ((List.Sublist.refl _)) rfl rfl rfl ?_
                refine ExD.pass (i := 15) rfl (by kernel_rfl) ((List.Sublist.refl _)) rfl rfl rfl ?_
                refine ExD.pass (i := 16) rfl (by kernel_rfl) ((List.Sublist.refl _)) rfl rfl rfl ?_
                refine ExD.pass (i := 17) rfl (by kernel_rfl) ((List.Sublist.refl _)) rfl rfl rfl ?_
                refine ExD.pass (i := 18) rfl (by kernel_rfl) ((List.Sublist.refl _)) rfl rfl rfl ?_
                refine ExD.pass (i := 19) rfl (by kernel_rfl) ((List.Sublist.refl _)) rfl rfl rfl ?_
                refine ExD.pass (i := 20) rfl (by kernel_rfl) ((List.Sublist.refl _)) rfl rfl rfl ?_
                refine ExD.pass (i := 21) rfl (by kernel_rfl) ((List.Sublist.refl _)) rfl rfl rfl ?_
                refine ExD.pass (i := 22) rfl (by kernel_rfl) ((List.Sublist.refl _)) rfl rfl rfl ?_
                refine ExD.pass (i := 23) rfl (by kernel_rfl) ((List.Sublist.refl _)) rfl rfl rfl ?_
                refine ExD.pass (i := 24) rfl (by kernel_rfl) ((List.Sublist.refl _)) rfl rfl rfl ?_
                refine ExD.pass (i := 25) rfl (by kernel_rfl) ((List.Sublist.refl _)) rfl rfl rfl ?_
                refine ExD.pass (i := 26) rfl (by kernel_rfl) ((List.Sublist.refl _)) rfl rfl rfl ?_
                refine ExD.pass (i := 27) rfl (by kernel_rfl) ((List.Sublist.refl _)) rfl rfl rfl ?_
                refine ExD.pass (i := 28) rfl (by kernel_rfl) ((List.Sublist.refl _)) rfl rfl rfl ?_
                refine ExD.pass (i := 29) rfl (by kernel_rfl) ((List.Sublist.refl _)) rfl rfl rfl ?_
                refine ExD.pass (i := 30) rfl (by kernel_rfl) ((List.Sublist.refl _)) rfl rfl rfl ?_
                refine ExD.pass (i := 31) rfl (by kernel_rfl) ((List.Sublist.refl _)) rfl rfl rfl ?_
                refine ExD.pass (i := 32) rfl (by kernel_rfl) ((List.Sublist.refl _)) rfl rfl rfl ?_
                refine ExD.pass (i := 33) rfl (by kernel_rfl) ((List.Sublist.refl _)) rfl rfl rfl ?_
                refine ExD.take (i := 34) rfl (by kernel_rfl) (pureVal_ok rfl) ((List.Sublist.refl _)) rfl rfl rfl ?_
                refine ExD.done (by kernel_rfl) ?_
                refine Ex.cond_f rfl ?_
                refine Ex.skip ?_
                refine Ex.region (ExL.pures 1 rfl ?_)
                refine ExL.free (by first | exact fr_add64 rfl rfl rfl (by omega) | exact fr_add rfl rfl rfl) rfl rfl rfl ?_
                refine ExL.pures 1 rfl ?_
                refine ExL.nil ?_
                refine Hand.mk (k + 1) 1 [0] ⟨agI (by omega), trivial⟩ ⟨rfl, rfl, rfl, rfl, rfl, rfl, trivial⟩ (rfl) rfl (⟨by omega, all_snoc hgap (by first | exact gap_1 ha hb_ (by first | assumption | (rw [← hbe]; assumption)) | exact gap_2 (by assumption))⟩) (by omega)
            · refine ExL.nil ?_
              refine Ex.cond_f rfl ?_
              refine Ex.exit ?_
              refine Ex.drawSeqM rfl ?_
              refine ExD.take (i := 0) rfl (by kernel_rfl) (pureVal_ok rfl) ((List.Sublist.refl _)) rfl rfl rfl ?_
              refine ExD.take (i := 1) rfl (by kernel_rfl) (pureVal_ok rfl) ((List.Sublist.refl _)) rfl rfl rfl ?_
              refine ExD.take (i := 2) rfl (by kernel_rfl) (pureVal_ok rfl) ((List.Sublist.refl _)) rfl rfl rfl ?_
              refine ExD.take (i := 3) rfl (by kernel_rfl) (fr_load rfl rfl rfl rfl (CellO.at 2 (Reads.old hst) rfl)) ((List.Sublist.refl _)) rfl rfl rfl ?_
              refine ExD.take (i := 4) rfl (by kernel_rfl) (pureVal_ok rfl) ((List.Sublist.refl _)) rfl rfl rfl ?_
              refine ExD.take (i := 5) rfl (by kernel_rfl) (pureVal_ok rfl) ((List.Sublist.refl _)) rfl rfl rfl ?_
              refine ExD.take (i := 6) rfl (by kernel_rfl) (by first | exact fr_sub64 rfl rfl rfl (by omega) | exact fr_sub rfl rfl rfl) ((List.Sublist.refl _)) rfl rfl rfl ?_
              refine ExD.take (i := 7) rfl (by kernel_rfl) (by first | exact fr_mul64 rfl rfl rfl (by omega) | exact fr_mul rfl rfl rfl) ((List.Sublist.refl _)) rfl rfl rfl ?_
              refine ExD.take (i := 8) rfl (by kernel_rfl) (pureVal_ok rfl) ((List.Sublist.refl _)) rfl rfl rfl ?_
              refine ExD.take (i := 9) rfl (by kernel_rfl) (pureVal_ok rfl) ((List.Sublist.refl _)) rfl rfl rfl ?_
              refine ExD.take (i := 10) rfl (by kernel_rfl) (pureVal_ok rfl) ((List.Sublist.refl _)) rfl rfl rfl ?_
              refine ExD.take (i := 11) rfl (by kernel_rfl) (fr_load rfl rfl rfl rfl (CellO.at 1 (Reads.old hst) rfl)) ((List.Sublist.refl _)) rfl rfl rfl ?_
              refine ExD.take (i := 12) rfl (by kernel_rfl) (pureVal_ok rfl) ((List.Sublist.refl _)) rfl rfl rfl ?_
              refine ExD.take (i := 13) rfl (by kernel_rfl) (by first | exact fr_mul64 rfl rfl rfl (by omega) | exact fr_mul rfl rfl rfl) ((List.Sublist.refl _)) rfl rfl rfl ?_
              refine ExD.take (i := 14) rfl (by kernel_rfl) (by first | exact fr_add64 rfl rfl rfl (by omega) | exact fr_add rfl rfl rfl) ((List.Sublist.refl _)) rfl rfl rfl ?_
              refine ExD.take (i := 15) rfl (by kernel_rfl) (fr_eql rfl rfl rfl) ((List.Sublist.refl _)) rfl rfl rfl ?_
              refine ExD.take (i := 16) rfl (by kernel_rfl) (pureVal_ok rfl) ((List.Sublist.refl _)) rfl rfl rfl ?_
              refine ExD.done (by kernel_rfl) ?_
              refine Ex.ret ?_
              refine RetQ.mk () rfl (.tmp rfl .nil) (tB (by first | exact told_n1 (by assumption) | exact told_n2 (by assumption) | exact told_n3 (by omega) (by omega) | exact told_n4 (k := k) (by omega) (mem_no hRk (by assumption)) | exact told_n4 (k := k) (by omega) (mem_hasn (by assumption)) | exact told_n4 (k := k) (by omega) (mem_fst hRk (by assumption)) | exact told_n5 (k := k) (by omega) ha hb_ (by first | assumption | (rw [← hbe]; assumption)) (by assumption) | exact told_end hRk hRb hpos hmem (fun j hj => hgap j (by omega)) (by omega))) [] (rfl) rfl (trivial)
      · refine ExL.pures 5 rfl ?_
        refine ExL.nil ?_
        refine Ex.cond_f rfl ?_
        refine Ex.skip ?_
        refine Ex.seq ?_
        have hRk := risB_t.1 (by assumption : risB l.length y.kept = true)
        have hRb := risB_t.1 (by assumption : risB l.length y.breaks = true)
        have hpos : 0 < l.length → 0 < y.kept.length := fun h0 => by omega
        have hkln := hRk.len
        have hbln := hRb.len
        refine Ex.regSeq (ExL.pures 1 rfl ?_)
        refine ExL.nil ?_
        refine Ex.block ?_
        refine Ex.loopK (X := Nat) (fun k => [(11, .int .i64 k)]) (fun k => []) (fun k => k ≤ y.breaks.length ∧ ∀ i, i < k → MemK y i) (fun k => y.breaks.length - k) 0 [(0, _), (1, _), (3, _), (6, _), (9, _), (10, _)] [_] 1 [0] ⟨rfl, trivial⟩ ⟨rfl, rfl, rfl, rfl, rfl, rfl, trivial⟩ (rfl) rfl ⟨Nat.zero_le _, fun i hi => by omega⟩ (fun k hI => ?_)
        have hI : k ≤ y.breaks.length ∧ ∀ i, i < k → MemK y i := hI
        obtain ⟨hk9, hall⟩ := hI
        refine Ex.seq ?_
        refine Ex.regSeq (ExL.pures 4 rfl ?_)
        refine ExL.free (fr_load rfl rfl rfl rfl (CellO.at 1 (Reads.old hst) rfl)) rfl rfl rfl ?_
        refine ExL.pures 1 rfl ?_
        refine ExL.lss rfl rfl rfl rfl rfl rfl (fun h17 => ?_) (fun h17 => ?_)
        · refine ExL.nil ?_
          refine Ex.cond_t rfl ?_
          refine Ex.skip ?_
          refine Ex.seq ?_
          refine Ex.block ?_
          have hkl : k < y.breaks.length := by omega
          refine Ex.drawSeqM rfl ?_
          refine ExD.take (i := 0) rfl (by kernel_rfl) (pureVal_ok rfl) ((List.Sublist.refl _)) rfl rfl rfl ?_
          refine ExD.take (i := 1) rfl (by kernel_rfl) (pureVal_ok rfl) ((List.Sublist.refl _)) rfl rfl rfl ?_
          refine ExD.take (i := 2) rfl (by kernel_rfl) (pureVal_ok rfl) ((List.Sublist.refl _)) rfl rfl rfl ?_
          refine ExD.take (i := 3) rfl (by kernel_rfl) (fr_load rfl rfl rfl rfl (CellO.at 0 (Reads.old hst) rfl)) ((List.Sublist.refl _)) rfl rfl rfl ?_
          refine ExD.take (i := 4) rfl (by kernel_rfl) (pureVal_ok rfl) ((List.Sublist.refl _)) rfl rfl rfl ?_
          refine ExD.take (i := 5) rfl (by kernel_rfl) (pureVal_ok rfl) ((List.Sublist.refl _)) rfl rfl rfl ?_
          refine ExD.take (i := 6) rfl (by kernel_rfl) (pureVal_ok rfl) ((List.Sublist.refl _)) rfl rfl rfl ?_
          refine ExD.take (i := 7) rfl (by kernel_rfl) (fr_load rfl rfl rfl rfl (CellO.at 1 (Reads.old hst) rfl)) ((List.Sublist.refl _)) rfl rfl rfl ?_
          refine ExD.take (i := 8) rfl (by kernel_rfl) (pureVal_ok rfl) ((List.Sublist.refl _)) rfl rfl rfl ?_
          refine ExD.take (i := 9) rfl (by kernel_rfl) (fr_indexAddrF (Reads.old hby) (eI_len .i64) rfl rfl rfl rfl rfl rfl (by omega)) ((List.Sublist.refl _)) rfl rfl rfl ?_
          refine ExD.take (i := 10) rfl (by kernel_rfl) (fr_load rfl rfl rfl rfl (cellJ (i := ↑k) (k) (Reads.old hby) (eI_len .i64) 0 0 rfl (by omega) (by omega) rfl)) ((List.Sublist.refl _)) rfl rfl rfl ?_
          refine ExD.op (i := 11) rfl (by kernel_rfl) rfl (op_ret rfl rfl rfl (c_l04Has y.kept _ _ (by omega) (y.breaks.getD k 0)) (Reads.get (Reads.old hky)) rfl rfl (fun x18 hx18 => ⟨(List.Sublist.refl _), ?_⟩))
          refine ExD.take (i := 12) rfl (by kernel_rfl) (pureVal_ok rfl) ((List.Sublist.refl _)) rfl rfl rfl ?_
          refine ExD.take (i := 13) rfl (by kernel_rfl) (pureVal_ok rfl) ((List.Sublist.refl _)) rfl rfl rfl ?_
          refine ExD.bool (d := 66) rfl (fun hb19 => ?_) (fun hb19 => ?_)
          · replace hb19 := nb_t hb19
            refine ExD.pass (i := 14) rfl (by kernel_rfl) ((List.Sublist.refl _)) rfl rfl rfl ?_
            refine ExD.pass (i := 15) rfl (by kernel_rfl) ((List.Sublist.refl _)) rfl rfl rfl ?_
            refine ExD.pass (i := 16) rfl (by kernel_rfl) ((List.Sublist.refl _)) rfl rfl rfl ?_
            refine ExD.pass (i := 17) rfl (by kernel_rfl) ((List.Sublist.refl _)) rfl rfl rfl ?_
            refine ExD.pass (i := 18) rfl (by kernel_rfl) ((List.Sublist.refl _)) rfl rfl rfl ?_
            refine ExD.pass (i := 19) rfl (by kernel_rfl) ((List.Sublist.refl _)) rfl rfl rfl ?_
            refine ExD.pass (i := 20) rfl (by kernel_rfl) ((List.Sublist.refl _)) rfl rfl rfl ?_
            refine ExD.pass (i := 21) rfl (by kernel_rfl) ((List.Sublist.refl _)) rfl rfl rfl ?_
            refine ExD.pass (i := 22) rfl (by kernel_rfl) ((List.Sublist.refl _)) rfl rfl rfl ?_
            refine ExD.pass (i := 23) rfl (by kernel_rfl) ((List.Sublist.refl _)) rfl rfl rfl ?_
            refine ExD.pass (i := 24) rfl (by kernel_rfl) ((List.Sublist.refl _)) rfl rfl rfl ?_
            refine ExD.pass (i := 25) rfl (by kernel_rfl) ((List.Sublist.refl _)) rfl rfl rfl ?_
            refine ExD.pass (i := 26) rfl (by kernel_rfl) ((List.Sublist.refl _)) rfl rfl rfl ?_
            refine ExD.pass (i := 27) rfl (by kernel_rfl) ((List.Sublist.refl _)) rfl rfl rfl ?_
            refine ExD.take (i := 28) rfl (by kernel_rfl) (pureVal_ok rfl) ((List.Sublist.refl _)) rfl rfl rfl ?_
            refine ExD.done (by kernel_rfl) ?_
            refine Ex.cond_t rfl ?_
            refine Ex.regSeq (ExL.pures 1 rfl ?_)
            refine ExL.nil ?_
            refine Ex.ret ?_
            refine RetQ.mk () rfl (.tmp rfl .nil) (tB (by first | exact told_n1 (by assumption) | exact told_n2 (by assumption) | exact told_n3 (by omega) (by omega) | exact told_n4 (k := k) (by omega) (mem_no hRk (by assumption)) | exact told_n4 (k := k) (by omega) (mem_hasn (by assumption)) | exact told_n4 (k := k) (by omega) (mem_fst hRk (by assumption)) | exact told_n5 (k := k) (by omega) ha hb_ (by first | assumption | (rw [← hbe]; assumption)) (by assumption) | exact told_end hRk hRb hpos hmem (fun j hj => hgap j (by omega)) (by omega))) [] (rfl) rfl (trivial)
          · replace hb19 := nb_f hb19
            refine ExD.take (i := 14) rfl (by kernel_rfl) (pureVal_ok rfl) ((List.Sublist.refl _)) rfl rfl rfl ?_
            refine ExD.take (i := 15) rfl (by kernel_rfl) (pureVal_ok rfl) ((List.Sublist.refl _)) rfl rfl rfl ?_
            refine ExD.take (i := 16) rfl (by kernel_rfl) (pureVal_ok rfl) ((List.Sublist.refl _)) rfl rfl rfl ?_
            refine ExD.take (i := 17) rfl (by kernel_rfl) (fr_load rfl rfl rfl rfl (CellO.at 1 (Reads.old hst) rfl)) ((List.Sublist.refl _)) rfl rfl rfl ?_
            refine ExD.take (i := 18) rfl (by kernel_rfl) (pureVal_ok rfl) ((List.Sublist.refl _)) rfl rfl rfl ?_
            refine ExD.take (i := 19) rfl (by kernel_rfl) (fr_indexAddrF (Reads.old hby) (eI_len .i64) rfl rfl rfl rfl rfl rfl (by omega)) ((List.Sublist.refl _)) rfl rfl rfl ?_
            refine ExD.take (i := 20) rfl (by kernel_rfl) (fr_load rfl rfl rfl rfl (cellJ (i := ↑k) (k) (Reads.old hby) (eI_len .i64) 0 0 rfl (by omega) (by omega) rfl)) ((List.Sublist.refl _)) rfl rfl rfl ?_
            refine ExD.take (i := 21) rfl (by kernel_rfl) (pureVal_ok rfl) ((List.Sublist.refl _)) rfl rfl rfl ?_
            refine ExD.take (i := 22) rfl (by kernel_rfl) (pureVal_ok rfl) ((List.Sublist.refl _)) rfl rfl rfl ?_
            refine ExD.take (i := 23) rfl (by kernel_rfl) (pureVal_ok rfl) ((List.Sublist.refl _)) rfl rfl rfl ?_
            refine ExD.take (i := 24) rfl (by kernel_rfl) (fr_load rfl rfl rfl rfl (CellO.at 0 (Reads.old hst) rfl)) ((List.Sublist.refl _)) rfl rfl rfl ?_
            refine ExD.take (i := 25) rfl (by kernel_rfl) (fr_indexAddrF (Reads.old hky) (eI_len .i64) rfl rfl rfl rfl rfl rfl (by omega)) ((List.Sublist.refl _)) rfl rfl rfl ?_
            refine ExD.take (i := 26) rfl (by kernel_rfl) (fr_load rfl rfl rfl rfl (cellJ (i := 0) 0 (Reads.old hky) (eI_len .i64) 0 0 rfl (by omega) (by omega) rfl)) ((List.Sublist.refl _)) rfl rfl rfl ?_
            refine ExD.cmp_eql (i := 27) rfl (by kernel_rfl) rfl rfl rfl ((List.Sublist.refl _)) rfl rfl rfl (fun h20 => ?_) (fun h20 => ?_)
            · refine ExD.take (i := 28) rfl (by kernel_rfl) (pureVal_ok rfl) ((List.Sublist.refl _)) rfl rfl rfl ?_
              refine ExD.done (by kernel_rfl) ?_
              refine Ex.cond_t rfl ?_
              refine Ex.regSeq (ExL.pures 1 rfl ?_)
              refine ExL.nil ?_
              refine Ex.ret ?_
              refine RetQ.mk () rfl (.tmp rfl .nil) (tB (by first | exact told_n1 (by assumption) | exact told_n2 (by assumption) | exact told_n3 (by omega) (by omega) | exact told_n4 (k := k) (by omega) (mem_no hRk (by assumption)) | exact told_n4 (k := k) (by omega) (mem_hasn (by assumption)) | exact told_n4 (k := k) (by omega) (mem_fst hRk (by assumption)) | exact told_n5 (k := k) (by omega) ha hb_ (by first | assumption | (rw [← hbe]; assumption)) (by assumption) | exact told_end hRk hRb hpos hmem (fun j hj => hgap j (by omega)) (by omega))) [] (rfl) rfl (trivial)
            · refine ExD.take (i := 28) rfl (by kernel_rfl) (pureVal_ok rfl) ((List.Sublist.refl _)) rfl rfl rfl ?_
              refine ExD.done (by kernel_rfl) ?_
              refine Ex.cond_f rfl ?_
              refine Ex.skip ?_
              refine Ex.region (ExL.pures 1 rfl ?_)
              refine ExL.free (by first | exact fr_add64 rfl rfl rfl (by omega) | exact fr_add rfl rfl rfl) rfl rfl rfl ?_
              refine ExL.pures 1 rfl ?_
              refine ExL.nil ?_
              refine Hand.mk (k + 1) 1 [0] ⟨rfl, trivial⟩ ⟨rfl, rfl, rfl, rfl, rfl, rfl, trivial⟩ (rfl) rfl (⟨by omega, all_snoc hall (mem_has (by assumption) (by assumption))⟩) (by omega)
        · refine ExL.nil ?_
          refine Ex.cond_f rfl ?_
          refine Ex.exit ?_
          have hmem : ∀ i, i < y.breaks.length → MemK y i := fun i hi => hall i (by omega)
          refine Ex.seq ?_
          refine Ex.regSeq (ExL.pures 1 rfl ?_)
          refine ExL.nil ?_
          refine Ex.block ?_
          refine Ex.loopK (X := Nat) (fun k => [(12, .int .i64 ((k : Int) + 1))]) (fun k => []) (fun k => (k + 1 ≤ y.kept.length ∨ k = 0) ∧ ∀ j, j < k → GapK (fitsF s l f) y j) (fun k => y.kept.length - k) 0 [(0, _), (1, _), (3, _), (6, _), (9, _), (10, _)] [_] 1 [0] ⟨rfl, trivial⟩ ⟨rfl, rfl, rfl, rfl, rfl, rfl, trivial⟩ (rfl) rfl ⟨.inr rfl, fun j hj => by omega⟩ (fun k hI => ?_)
          have hI : (k + 1 ≤ y.kept.length ∨ k = 0) ∧ ∀ j, j < k → GapK (fitsF s l f) y j := hI
          obtain ⟨hk9, hgap⟩ := hI
          refine Ex.seq ?_
          refine Ex.regSeq (ExL.pures 2 rfl ?_)
          refine ExL.lss rfl rfl rfl rfl rfl rfl (fun h21 => ?_) (fun h21 => ?_)
          · refine ExL.nil ?_
            refine Ex.cond_t rfl ?_
            refine Ex.skip ?_
            refine Ex.seq ?_
            refine Ex.block ?_
            have hkl : k + 1 < y.kept.length := by omega
            obtain ⟨a, b_, ha, hb_, hab, hbn⟩ := hRk.nat (k := k) (by omega)
            refine Ex.drawSeqM rfl ?_
            refine ExD.take (i := 0) rfl (by kernel_rfl) (pureVal_ok rfl) ((List.Sublist.refl _)) rfl rfl rfl ?_
            refine ExD.take (i := 1) rfl (by kernel_rfl) (pureVal_ok rfl) ((List.Sublist.refl _)) rfl rfl rfl ?_
            refine ExD.take (i := 2) rfl (by kernel_rfl) (pureVal_ok rfl) ((List.Sublist.refl _)) rfl rfl rfl ?_
            refine ExD.take (i := 3) rfl (by kernel_rfl) (fr_load rfl rfl rfl rfl (CellO.at 1 (Reads.old hst) rfl)) ((List.Sublist.refl _)) rfl rfl rfl ?_
            refine ExD.take (i := 4) rfl (by kernel_rfl) (pureVal_ok rfl) ((List.Sublist.refl _)) rfl rfl rfl ?_
            refine ExD.take (i := 5) rfl (by kernel_rfl) (pureVal_ok rfl) ((List.Sublist.refl _)) rfl rfl rfl ?_
            refine ExD.take (i := 6) rfl (by kernel_rfl) (pureVal_ok rfl) ((List.Sublist.refl _)) rfl rfl rfl ?_
            refine ExD.take (i := 7) rfl (by kernel_rfl) (fr_load rfl rfl rfl rfl (CellO.at 0 (Reads.old hst) rfl)) ((List.Sublist.refl _)) rfl rfl rfl ?_
            refine ExD.take (i := 8) rfl (by kernel_rfl) (pureVal_ok rfl) ((List.Sublist.refl _)) rfl rfl rfl ?_
            refine ExD.take (i := 9) rfl (by kernel_rfl) (fr_indexAddrF (Reads.old hky) (eI_len .i64) rfl rfl rfl rfl rfl rfl (by omega)) ((List.Sublist.refl _)) rfl rfl rfl ?_
            refine ExD.take (i := 10) rfl (by kernel_rfl) (fr_load rfl rfl rfl rfl (cellJ (i := (↑k + 1)) ((k + 1)) (Reads.old hky) (eI_len .i64) 0 0 rfl (by omega) (by omega) rfl)) ((List.Sublist.refl _)) rfl rfl rfl ?_
            refine ExD.op (i := 11) rfl (by kernel_rfl) rfl (op_ret rfl rfl rfl (c_l04Has y.breaks _ _ (by omega) (y.kept.getD (k + 1) 0)) (Reads.get (Reads.old hby)) rfl rfl (fun x22 hx22 => ⟨(List.Sublist.refl _), ?_⟩))
            refine ExD.take (i := 12) rfl (by kernel_rfl) (pureVal_ok rfl) ((List.Sublist.refl _)) rfl rfl rfl ?_
            refine ExD.take (i := 13) rfl (by kernel_rfl) (pureVal_ok rfl) ((List.Sublist.refl _)) rfl rfl rfl ?_
            refine ExD.bool (d := 100) rfl (fun hb23 => ?_) (fun hb23 => ?_)
            · replace hb23 := nb_t hb23
              refine ExD.take (i := 14) rfl (by kernel_rfl) (pureVal_ok rfl) ((List.Sublist.refl _)) rfl rfl rfl ?_
              refine ExD.take (i := 15) rfl (by kernel_rfl) (pureVal_ok rfl) ((List.Sublist.refl _)) rfl rfl rfl ?_
              refine ExD.take (i := 16) rfl (by kernel_rfl) (fr_loadN rfl rfl rfl rfl rfl (SegO.whole (i := 0) rfl)) ((List.Sublist.refl _)) rfl rfl rfl ?_
              refine ExD.take (i := 17) rfl (by kernel_rfl) (pureVal_ok rfl) ((List.Sublist.refl _)) rfl rfl rfl ?_
              refine ExD.take (i := 18) rfl (by kernel_rfl) (pureVal_ok rfl) ((List.Sublist.refl _)) rfl rfl rfl ?_
              refine ExD.take (i := 19) rfl (by kernel_rfl) (pureVal_ok rfl) ((List.Sublist.refl _)) rfl rfl rfl ?_
              refine ExD.take (i := 20) rfl (by kernel_rfl) (fr_load rfl rfl rfl rfl (CellO.at 0 (Reads.old hst) rfl)) ((List.Sublist.refl _)) rfl rfl rfl ?_
              refine ExD.take (i := 21) rfl (by kernel_rfl) (pureVal_ok rfl) ((List.Sublist.refl _)) rfl rfl rfl ?_
              refine ExD.take (i := 22) rfl (by kernel_rfl) (by first | exact fr_sub64 rfl rfl rfl (by omega) | exact fr_sub rfl rfl rfl) ((List.Sublist.refl _)) rfl rfl rfl ?_
              refine ExD.take (i := 23) rfl (by kernel_rfl) (fr_indexAddrF (Reads.old hky) (eI_len .i64) rfl rfl rfl rfl rfl rfl (by omega)) ((List.Sublist.refl _)) rfl rfl rfl ?_
              refine ExD.take (i := 24) rfl (by kernel_rfl) (fr_load (v := .int .i64 (a : Int)) rfl rfl rfl rfl (cellJ (i := ((k : Int) + 1 - 1)) k (Reads.old hky) (eI_len .i64) 0 0 rfl (by omega) (by omega) (by show some (Value.int .i64 _) = _; rw [ha]))) ((List.Sublist.refl _)) rfl rfl rfl ?_
              refine ExD.take (i := 25) rfl (by kernel_rfl) (pureVal_ok rfl) ((List.Sublist.refl _)) rfl rfl rfl ?_
              refine ExD.take (i := 26) rfl (by kernel_rfl) (pureVal_ok rfl) ((List.Sublist.refl _)) rfl rfl rfl ?_
              refine ExD.take (i := 27) rfl (by kernel_rfl) (pureVal_ok rfl) ((List.Sublist.refl _)) rfl rfl rfl ?_
              refine ExD.take (i := 28) rfl (by kernel_rfl) (fr_load rfl rfl rfl rfl (CellO.at 0 (Reads.old hst) rfl)) ((List.Sublist.refl _)) rfl rfl rfl ?_
              refine ExD.take (i := 29) rfl (by kernel_rfl) (pureVal_ok rfl) ((List.Sublist.refl _)) rfl rfl rfl ?_
              refine ExD.take (i := 30) rfl (by kernel_rfl) (fr_indexAddrF (Reads.old hky) (eI_len .i64) rfl rfl rfl rfl rfl rfl (by omega)) ((List.Sublist.refl _)) rfl rfl rfl ?_
              refine ExD.take (i := 31) rfl (by kernel_rfl) (fr_load (v := .int .i64 (b_ : Int)) rfl rfl rfl rfl (cellJ (i := ((k : Int) + 1)) (k + 1) (Reads.old hky) (eI_len .i64) 0 0 rfl (by omega) (by omega) (by show some (Value.int .i64 _) = _; rw [hb_]))) ((List.Sublist.refl _)) rfl rfl rfl ?_
              refine ExD.op (i := 32) rfl (by kernel_rfl) rfl (op_ret rfl rfl rfl (c_l04Fits s (by assumption) _ _ (by omega) l _ _ (by omega) (by assumption) f (by assumption) a b_ (by omega) (by omega)) (fun w hw => ⟨Reads.get (Reads.old hs) w hw, Reads.get (Reads.old hl) w hw⟩) rfl rfl (fun x24 hx24 => ⟨(List.Sublist.refl _), ?_⟩))
              refine ExD.take (i := 33) rfl (by kernel_rfl) (pureVal_ok rfl) ((List.Sublist.refl _)) rfl rfl rfl ?_
              refine ExD.take (i := 34) rfl (by kernel_rfl) (pureVal_ok rfl) ((List.Sublist.refl _)) rfl rfl rfl ?_
              refine ExD.done (by kernel_rfl) ?_
              refine Ex.cond rfl (fun hb25 => ?_) (fun hb25 => ?_)
              · replace hb25 := nb_t hb25
                refine Ex.regSeq (ExL.pures 1 rfl ?_)
                refine ExL.nil ?_
                refine Ex.ret ?_
                refine RetQ.mk () rfl (.tmp rfl .nil) (tB (by first | exact told_n1 (by assumption) | exact told_n2 (by assumption) | exact told_n3 (by omega) (by omega) | exact told_n4 (k := k) (by omega) (mem_no hRk (by assumption)) | exact told_n4 (k := k) (by omega) (mem_hasn (by assumption)) | exact told_n4 (k := k) (by omega) (mem_fst hRk (by assumption)) | exact told_n5 (k := k) (by omega) ha hb_ (by first | assumption | (rw [← hbe]; assumption)) (by assumption) | exact told_end hRk hRb hpos hmem (fun j hj => hgap j (by omega)) (by omega))) [] (rfl) rfl (trivial)
              · replace hb25 := nb_f hb25
                refine Ex.skip ?_
                refine Ex.region (ExL.pures 1 rfl ?_)
                refine ExL.free (by first | exact fr_add64 rfl rfl rfl (by omega) | exact fr_add rfl rfl rfl) rfl rfl rfl ?_
                refine ExL.pures 1 rfl ?_
                refine ExL.nil ?_
                refine Hand.mk (k + 1) 1 [0] ⟨agI (by omega), trivial⟩ ⟨rfl, rfl, rfl, rfl, rfl, rfl, trivial⟩ (rfl) rfl (⟨by omega, all_snoc hgap (by first | exact gap_1 ha hb_ (by first | assumption | (rw [← hbe]; assumption)) | exact gap_2 (by assumption))⟩) (by omega)
            · replace hb23 := nb_f hb23
              refine ExD.pass (i := 14) rfl (by kernel_rfl) ((List.Sublist.refl _)) rfl rfl rfl ?_
              refine ExD.pass (i := 15) rfl (by kernel_rfl) ((List.Sublist.refl _)) rfl rfl rfl ?_
              refine ExD.pass (i := 16) rfl (by kernel_rfl) ((List.Sublist.refl _)) rfl rfl rfl ?_
              refine ExD.pass (i := 17) rfl (by kernel_rfl) ((List.Sublist.refl _)) rfl rfl rfl ?_
              refine ExD.pass (i := 18) rfl (by kernel_rfl) ((List.Sublist.refl _)) rfl rfl rfl ?_
              refine ExD.pass (i := 19) rfl (by kernel_rfl) ((List.Sublist.refl _)) rfl rfl rfl ?_
              refine ExD.pass (i := 20) rfl (by kernel_rfl) ((List.Sublist.refl _)) rfl rfl rfl ?_
              refine ExD.pass (i := 21) rfl (by kernel_rfl) ((List.Sublist.refl _)) rfl rfl rfl ?_
              refine ExD.pass (i := 22) rfl (by kernel_rfl) ((List.Sublist.refl _)) rfl rfl rfl ?_
              refine ExD.pass (i := 23) rfl (by kernel_rfl) ((List.Sublist.refl _)) rfl rfl rfl ?_
              refine ExD.pass (i := 24) rfl (by kernel_rfl) ((List.Sublist.refl _)) rfl rfl rfl ?_
              refine ExD.pass (i := 25) rfl (by kernel_rfl) ((List.Sublist.refl _)) rfl rfl rfl ?_
              refine ExD.pass (i := 26) rfl (by kernel_rfl) ((List.Sublist.refl _)) rfl rfl rfl ?_
              refine ExD.pass (i := 27) rfl (by kernel_rfl) ((List.Sublist.refl _)) rfl rfl rfl ?_
              refine ExD.pass (i := 28) rfl (by kernel_rfl) ((List.Sublist.refl _)) rfl rfl rfl ?_
              refine ExD.pass (i := 29) rfl (by kernel_rfl) ((List.Sublist.refl _)) rfl rfl rfl ?_
              refine ExD.pass (i := 30) rfl (by kernel_rfl) ((List.Sublist.refl _)) rfl rfl rfl ?_
              refine ExD.pass (i := 31) rfl (by kernel_rfl) ((List.Sublist.refl _)) rfl rfl rfl ?_
              refine ExD.pass (i := 32) rfl (by kernel_rfl) ((List.Sublist.refl _)) rfl rfl rfl ?_
              refine ExD.pass (i := 33) rfl (by kernel_rfl) ((List.Sublist.refl _)) rfl rfl rfl ?_
              refine ExD.take (i := 34) rfl (by kernel_rfl) (pureVal_ok rfl) ((List.Sublist.refl _)) rfl rfl rfl ?_
              refine ExD.done (by kernel_rfl) ?_
              refine Ex.cond_f rfl ?_
              refine Ex.skip ?_
              refine Ex.region (ExL.pures 1 rfl ?_)
              refine ExL.free (by first | exact fr_add64 rfl rfl rfl (by omega) | exact fr_add rfl rfl rfl) rfl rfl rfl ?_
              refine ExL.pures 1 rfl ?_
              refine ExL.nil ?_
              refine Hand.mk (k + 1) 1 [0] ⟨agI (by omega), trivial⟩ ⟨rfl, rfl, rfl, rfl, rfl, rfl, trivial⟩ (rfl) rfl (⟨by omega, all_snoc hgap (by first | exact gap_1 ha hb_ (by first | assumption | (rw [← hbe]; assumption)) | exact gap_2 (by assumption))⟩) (by omega)
          · refine ExL.nil ?_
            refine Ex.cond_f rfl ?_
            refine Ex.exit ?_
            refine Ex.drawSeqM rfl ?_
            refine ExD.take (i := 0) rfl (by kernel_rfl) (pureVal_ok rfl) ((List.Sublist.refl _)) rfl rfl rfl ?_
            refine ExD.take (i := 1) rfl (by kernel_rfl) (pureVal_ok rfl) ((List.Sublist.refl _)) rfl rfl rfl ?_
            refine ExD.take (i := 2) rfl (by kernel_rfl) (pureVal_ok rfl) ((List.Sublist.refl _)) rfl rfl rfl ?_
            refine ExD.take (i := 3) rfl (by kernel_rfl) (fr_load rfl rfl rfl rfl (CellO.at 2 (Reads.old hst) rfl)) ((List.Sublist.refl _)) rfl rfl rfl ?_
            refine ExD.take (i := 4) rfl (by kernel_rfl) (pureVal_ok rfl) ((List.Sublist.refl _)) rfl rfl rfl ?_
            refine ExD.take (i := 5) rfl (by kernel_rfl) (pureVal_ok rfl) ((List.Sublist.refl _)) rfl rfl rfl ?_
            refine ExD.take (i := 6) rfl (by kernel_rfl) (by first | exact fr_sub64 rfl rfl rfl (by omega) | exact fr_sub rfl rfl rfl) ((List.Sublist.refl _)) rfl rfl rfl ?_
            refine ExD.take (i := 7) rfl (by kernel_rfl) (by first | exact fr_mul64 rfl rfl rfl (by omega) | exact fr_mul rfl rfl rfl) ((List.Sublist.refl _)) rfl rfl rfl ?_
            refine ExD.take (i := 8) rfl (by kernel_rfl) (pureVal_ok rfl) ((List.Sublist.refl _)) rfl rfl rfl ?_
            refine ExD.take (i := 9) rfl (by kernel_rfl) (pureVal_ok rfl) ((List.Sublist.refl _)) rfl rfl rfl ?_
            refine ExD.take (i := 10) rfl (by kernel_rfl) (pureVal_ok rfl) ((List.Sublist.refl _)) rfl rfl rfl ?_
            refine ExD.take (i := 11) rfl (by kernel_rfl) (fr_load rfl rfl rfl rfl (CellO.at 1 (Reads.old hst) rfl)) ((List.Sublist.refl _)) rfl rfl rfl ?_
            refine ExD.take (i := 12) rfl (by kernel_rfl) (pureVal_ok rfl) ((List.Sublist.refl _)) rfl rfl rfl ?_
            refine ExD.take (i := 13) rfl (by kernel_rfl) (by first | exact fr_mul64 rfl rfl rfl (by omega) | exact fr_mul rfl rfl rfl) ((List.Sublist.refl _)) rfl rfl rfl ?_
            refine ExD.take (i := 14) rfl (by kernel_rfl) (by first | exact fr_add64 rfl rfl rfl (by omega) | exact fr_add rfl rfl rfl) ((List.Sublist.refl _)) rfl rfl rfl ?_
            refine ExD.take (i := 15) rfl (by kernel_rfl) (fr_eql rfl rfl rfl) ((List.Sublist.refl _)) rfl rfl rfl ?_
            refine ExD.take (i := 16) rfl (by kernel_rfl) (pureVal_ok rfl) ((List.Sublist.refl _)) rfl rfl rfl ?_
            refine ExD.done (by kernel_rfl) ?_
            refine Ex.ret ?_
            refine RetQ.mk () rfl (.tmp rfl .nil) (tB (by first | exact told_n1 (by assumption) | exact told_n2 (by assumption) | exact told_n3 (by omega) (by omega) | exact told_n4 (k := k) (by omega) (mem_no hRk (by assumption)) | exact told_n4 (k := k) (by omega) (mem_hasn (by assumption)) | exact told_n4 (k := k) (by omega) (mem_fst hRk (by assumption)) | exact told_n5 (k := k) (by omega) ha hb_ (by first | assumption | (rw [← hbe]; assumption)) (by assumption) | exact told_end hRk hRb hpos hmem (fun j hj => hgap j (by omega)) (by omega))) [] (rfl) rfl (trivial)
theorem e_21 : Enters Tryz.prog 21 := Enters.of Tryz.func21 rfl
theorem c_sCheckS (s : List Int) (hu : Nums 255 s) (As : Option Addr) (cs : Nat) (hls : s.length ≤ maxLen) (l : List VP) (Al : Option Addr) (cl : Nat) (hll : l.length ≤ maxLen) (f : VP) (hask : askS s l f = true) (y : VSt) (Y1 : Option Addr) (yc1 : Nat) (Y2 : Option Addr) (yc2 : Nat) (hy : y.kept.length ≤ 1000 ∧ y.breaks.length ≤ 1000) : Ret Tryz.prog 21 [.slice As s.length cs, .slice Al l.length cl, .agg (encP f).toArray, .agg (encY Y1 yc1 Y2 yc2 y).toArray] (fun w => (Rd w As (s.flatMap (eI .u8)) ∧ Rd w Al (l.flatMap encP)) ∧ Rd w Y1 (y.kept.flatMap (eI .i64)) ∧ Rd w Y2 (y.breaks.flatMap (eI .i64))) (fun x : Unit => .tuple #[.bool (toldB (fitsF s l f) l.length y), .int .i64 0]) (fun x => []) (fun x => True) := by
  refine Ret.of e_21 Tryz.func21 rfl Tryz.ntmps21 rfl rfl (fun w hpre => ?_)
  have hky := hpre.2.1.base
  have hby := hpre.2.2.base
  have hs := hpre.1.1.base
  have hl := hpre.1.2.base
  have hm0 : maxLen = 9223372036854775807 := rfl
  obtain ⟨hL, hf⟩ := ask_of hask
  have hLl := hL.len
  obtain ⟨hy1, hy2⟩ := hy
  have hac : askC s l f = 0 := by unfold askC; rw [if_pos hask]
  refine Ex.regSeq (ExL.pures 0 rfl ?_)
  refine ExL.op rfl (op_box rfl rfl rfl rfl rfl (fun b1 => ?_))
  refine ExL.op rfl (op_box rfl rfl rfl rfl rfl (fun b2 => ?_))
  refine ExL.pures 2 rfl ?_
  refine ExL.nil ?_
  refine Ex.seq ?_
  refine Ex.regSeq (ExL.pures 2 rfl ?_)
  refine ExL.free (fr_loadN rfl rfl rfl rfl rfl (SegO.whole (i := 1) rfl)) rfl rfl rfl ?_
  refine ExL.op rfl (op_ret rfl rfl rfl (c_l04Asked s (by assumption) _ _ (by omega) l _ _ (by omega) f) (fun w hw => ⟨Reads.get (Reads.old hs) w hw, Reads.get (Reads.old hl) w hw⟩) rfl rfl (fun x3 hx3 => ?_))
  refine ExL.pures 1 rfl ?_
  refine ExL.nil ?_
  refine Ex.regSeq (ExL.pures 1 rfl ?_)
  refine ExL.free (fr_neq_f rfl rfl rfl (by rw [hac]; exact fun h => h rfl)) rfl rfl rfl ?_
  refine ExL.nil ?_
  refine Ex.cond_f rfl ?_
  refine Ex.skip ?_
  refine Ex.regSeq (ExL.pures 2 rfl ?_)
  refine ExL.free (fr_loadN rfl rfl rfl rfl rfl (SegO.whole (i := 1) rfl)) rfl rfl rfl ?_
  refine ExL.op rfl (op_ret rfl rfl rfl (c_l04Told s (by assumption) _ _ (by omega) l _ _ (by omega) f hask y (Y1) (yc1) (Y2) (yc2) (by first | assumption | (constructor <;> omega)) _) (fun w hw => ⟨⟨Reads.get (Reads.old hs) w hw, Reads.get (Reads.old hl) w hw⟩, Reads.get (Reads.blk (i := 0) rfl) w hw, Reads.get (Reads.old hky) w hw, Reads.get (Reads.old hby) w hw⟩) rfl rfl (fun x4 hx4 => ?_))
  refine ExL.pures 2 rfl ?_
  refine ExL.nil ?_
  refine Ex.ret ?_
  refine RetQ.mk () rfl (.tmp rfl (.tmp rfl .nil)) ((by first | exact t2 rfl rfl | (exfalso; omega) | (exfalso; simp_all; done))) [] (rfl) rfl (trivial)
theorem e_8 : Enters Tryz.prog 8 := Enters.of Tryz.func8 rfl
theorem c_iCheckS (s : List Int) (hu : Nums 255 s) (As : Option Addr) (cs : Nat) (hls : s.length ≤ maxLen) (l : List VP) (Al : Option Addr) (cl : Nat) (hll : l.length ≤ maxLen) (f : VP) (hask : askS s l f = true) (y : VSt) (Y1 : Option Addr) (yc1 : Nat) (Y2 : Option Addr) (yc2 : Nat) (hy : y.kept.length ≤ 1000 ∧ y.breaks.length ≤ 1000) : Ret Tryz.prog 8 [.slice As s.length cs, .slice Al l.length cl, .agg (encP f).toArray, .agg (encY Y1 yc1 Y2 yc2 y).toArray] (fun w => (Rd w As (s.flatMap (eI .u8)) ∧ Rd w Al (l.flatMap encP)) ∧ Rd w Y1 (y.kept.flatMap (eI .i64)) ∧ Rd w Y2 (y.breaks.flatMap (eI .i64))) (fun x : Unit => .tuple #[.bool (toldB (fitsF s l f) l.length y), .int .i64 0]) (fun x => []) (fun x => True) := by
  refine Ret.of e_8 Tryz.func8 rfl Tryz.ntmps8 rfl rfl (fun w hpre => ?_)
  have hky := hpre.2.1.base
  have hby := hpre.2.2.base
  have hs := hpre.1.1.base
  have hl := hpre.1.2.base
  have hm0 : maxLen = 9223372036854775807 := rfl
  obtain ⟨hL, hf⟩ := ask_of hask
  have hLl := hL.len
  obtain ⟨hy1, hy2⟩ := hy
  refine Ex.regSeq (ExL.pures 0 rfl ?_)
  refine ExL.op rfl (op_box rfl rfl rfl rfl rfl (fun b1 => ?_))
  refine ExL.op rfl (op_box rfl rfl rfl rfl rfl (fun b2 => ?_))
  refine ExL.pures 2 rfl ?_
  refine ExL.nil ?_
  refine Ex.regSeq (ExL.pures 2 rfl ?_)
  refine ExL.free (fr_loadN rfl rfl rfl rfl rfl (SegO.whole (i := 1) rfl)) rfl rfl rfl ?_
  refine ExL.op rfl (op_ret rfl rfl rfl (c_detOf_t s (by assumption) _ _ (by omega) l _ _ (by omega) f hask) (fun w hw => ⟨Reads.get (Reads.old hs) w hw, Reads.get (Reads.old hl) w hw⟩) rfl rfl (fun x3 hx3 => ?_))
  refine ExL.pures 1 rfl ?_
  refine ExL.nil ?_
  refine Ex.seq ?_
  refine Ex.regSeq (ExL.pures 1 rfl ?_)
  refine ExL.free (fr_eql_ptr_s rfl rfl rfl rfl) rfl rfl rfl ?_
  refine ExL.nil ?_
  refine Ex.cond_f rfl ?_
  refine Ex.skip ?_
  refine Ex.regSeq (ExL.pures 1 rfl ?_)
  refine ExL.free (fr_loadN rfl rfl rfl rfl rfl (SegO.whole (i := 3) rfl)) rfl rfl rfl ?_
  refine ExL.op rfl (op_ret rfl rfl rfl (c_told (fitsF s l f) l.length (by omega) x3.K hx3.1 hx3.2 _ _ _ _ _ _ _ y (Y1) (yc1) (Y2) (yc2) (by first | assumption | (constructor <;> omega))) (fun w hw => ⟨⟨Reads.get (Reads.blk (i := 0) rfl) w hw, Reads.get (Reads.row (i := 1) rfl) w hw, fun k hk => Reads.get (readsX (i := 2) rfl hk) w hw⟩, Reads.get (Reads.old hky) w hw, Reads.get (Reads.old hby) w hw⟩) rfl rfl (fun x4 hx4 => ?_))
  refine ExL.pures 2 rfl ?_
  refine ExL.nil ?_
  refine Ex.ret ?_
  refine RetQ.mk () rfl (.tmp rfl (.tmp rfl .nil)) ((by first | exact t2 rfl rfl | (exfalso; omega) | (exfalso; simp_all; done))) [] (rfl) rfl (trivial)
theorem e_10 : Enters Tryz.prog 10 := Enters.of Tryz.func10 rfl
theorem c_sSuspects (s : List Int) (hu : Nums 255 s) (As : Option Addr) (cs : Nat) (hls : s.length ≤ maxLen) (l : List VP) (Al : Option Addr) (cl : Nat) (hll : l.length ≤ maxLen) (f : VP) (hask : askS s l f = true) : Ret Tryz.prog 10 [.slice As s.length cs, .slice Al l.length cl, .agg (encP f).toArray] (fun w => Rd w As (s.flatMap (eI .u8)) ∧ Rd w Al (l.flatMap encP)) (fun x : Option Addr × Nat => .tuple #[.slice x.1 (susL (fitsF s l f) (l.length - 1)).length x.2, .int .i64 0]) (fun x => [.row (.slice x.1 (susL (fitsF s l f) (l.length - 1)).length x.2) 2 1 (susL (fitsF s l f) (l.length - 1)).length ((susL (fitsF s l f) (l.length - 1)).flatMap (eI .i64))]) (fun x => True) := by
  refine Ret.of e_10 Tryz.func10 rfl Tryz.ntmps10 rfl rfl (fun w hpre => ?_)
  have hs := hpre.1.base
  have hl := hpre.2.base
  have hm0 : maxLen = 9223372036854775807 := rfl
  obtain ⟨hL, hf⟩ := ask_of hask
  have hLl := hL.len
  have hac : askC s l f = 0 := by unfold askC; rw [if_pos hask]
  refine Ex.regSeq (ExL.pures 0 rfl ?_)
  refine ExL.op rfl (op_box rfl rfl rfl rfl rfl (fun b1 => ?_))
  refine ExL.pures 2 rfl ?_
  refine ExL.nil ?_
  refine Ex.seq ?_
  refine Ex.regSeq (ExL.pures 2 rfl ?_)
  refine ExL.free (fr_loadN rfl rfl rfl rfl rfl (SegO.whole (i := 0) rfl)) rfl rfl rfl ?_
  refine ExL.op rfl (op_ret rfl rfl rfl (c_l04Asked s (by assumption) _ _ (by omega) l _ _ (by omega) f) (fun w hw => ⟨Reads.get (Reads.old hs) w hw, Reads.get (Reads.old hl) w hw⟩) rfl rfl (fun x2 hx2 => ?_))
  refine ExL.pures 1 rfl ?_
  refine ExL.nil ?_
  refine Ex.regSeq (ExL.pures 1 rfl ?_)
  refine ExL.free (fr_neq_f rfl rfl rfl (by rw [hac]; exact fun h => h rfl)) rfl rfl rfl ?_
  refine ExL.nil ?_
  refine Ex.cond_f rfl ?_
  refine Ex.skip ?_
  refine Ex.regSeq (ExL.pures 0 rfl ?_)
  refine ExL.op rfl (op_buildSlice (sz := 1) rfl rfl rfl rfl rfl rfl rfl rfl (by decide) rfl rfl rfl (fun r3 => ?_))
  refine ExL.pures 1 rfl ?_
  refine ExL.nil ?_
  refine Ex.seq ?_
  refine Ex.regSeq (ExL.pures 1 rfl ?_)
  refine ExL.nil ?_
  refine Ex.block ?_
  refine Ex.loopA (fun k A c => [(9, .slice A ((susL (fitsF s l f) k)).length c), (10, .int .i64 ((k : Int) + 1))]) (fun k A c => [.row (.slice A ((susL (fitsF s l f) k)).length c) 2 1 ((susL (fitsF s l f) k)).length (((susL (fitsF s l f) k)).flatMap (eI .i64))]) (fun k => k ≤ l.length - 1) (fun k => l.length - k) 0 ((some ⟨r3, 0, none⟩)) (0) [(0, _), (1, _), (5, _), (6, _), (7, _)] [_] 2 [0, 1] ⟨rfl, rfl, trivial⟩ ⟨rfl, rfl, rfl, rfl, rfl, trivial⟩ (rfl) rfl (Nat.zero_le _) (fun k A c hI => ?_)
  have hI : k ≤ l.length - 1 := hI
  have hsl := sus_len (fitsF s l f) k
  refine Ex.seq ?_
  refine Ex.regSeq (ExL.pures 3 rfl ?_)
  refine ExL.lss rfl rfl rfl rfl rfl rfl (fun h4 => ?_) (fun h4 => ?_)
  · refine ExL.nil ?_
    refine Ex.cond_t rfl ?_
    refine Ex.skip ?_
    refine Ex.seq ?_
    refine Ex.block ?_
    have hkl : k + 1 < l.length := by omega
    rw [show ((k : Int) + 1) = ((k + 1 : Nat) : Int) by omega]
    refine Ex.regSeq (ExL.pures 2 rfl ?_)
    refine ExL.free (fr_loadN rfl rfl rfl rfl rfl (SegO.whole (i := 1) rfl)) rfl rfl rfl ?_
    refine ExL.pures 1 rfl ?_
    refine ExL.free (Free.val (((k : Nat) : Int)) (fr_sub64 rfl rfl rfl (by omega)) (by omega)) rfl rfl rfl ?_
    refine ExL.pures 1 rfl ?_
    refine ExL.op rfl (op_ret rfl rfl rfl (c_l04Fits s (by assumption) _ _ (by omega) l _ _ (by omega) (by assumption) f (by assumption) k (k + 1) (by omega) (by omega)) (fun w hw => ⟨Reads.get (Reads.old hs) w hw, Reads.get (Reads.old hl) w hw⟩) rfl rfl (fun x5 hx5 => ?_))
    refine ExL.pures 1 rfl ?_
    refine ExL.nil ?_
    refine Ex.cond rfl (fun hb6 => ?_) (fun hb6 => ?_)
    · replace hb6 := nb_t hb6
      refine Ex.region (ExL.pures 2 rfl ?_)
      refine ExL.op rfl (op_buildSlice (sz := 1) rfl rfl rfl rfl rfl rfl rfl rfl (by decide) rfl rfl rfl (fun r7 => ?_))
      refine ExL.op rfl (op_append (sz := 1) (bytes := 8) (i := 1) rfl rfl rfl rfl (Reads.row (i := 0) rfl) rfl (fun e => nomatch e) rfl rfl rfl rfl (by constructor <;> first | omega | (unfold maxLen; omega)) rfl rfl (fun A8 cA8 => ?_))
      refine ExL.pures 1 rfl ?_
      refine ExL.nil ?_
      refine Ex.region (ExL.pures 1 rfl ?_)
      refine ExL.free (by first | exact fr_add64 rfl rfl rfl (by omega) | exact fr_add rfl rfl rfl) rfl rfl rfl ?_
      refine ExL.pures 1 rfl ?_
      refine ExL.nil ?_
      refine HandA.of (k + 1) (A8) (cA8) 3 [1, 2] ⟨(by first | (rw [sus_y (by first | assumption | (rw [← hbe]; assumption)), List.length_append]; rfl) | (rw [sus_n (by first | assumption | (rw [← hbe]; assumption))]; first | done | rfl)), agI (by omega), trivial⟩ ⟨rfl, rfl, rfl, rfl, rfl, trivial⟩ (by first | (rw [sus_y (by first | assumption | (rw [← hbe]; assumption)), List.length_append, List.flatMap_append]; rfl) | (rw [sus_n (by first | assumption | (rw [← hbe]; assumption))]; first | done | rfl)) rfl (by omega) (by omega)
    · replace hb6 := nb_f hb6
      refine Ex.skip ?_
      refine Ex.region (ExL.pures 1 rfl ?_)
      refine ExL.free (by first | exact fr_add64 rfl rfl rfl (by omega) | exact fr_add rfl rfl rfl) rfl rfl rfl ?_
      refine ExL.pures 1 rfl ?_
      refine ExL.nil ?_
      refine HandA.of (k + 1) (A) (c) 2 [0, 1] ⟨(by first | (rw [sus_y (by first | assumption | (rw [← hbe]; assumption)), List.length_append]; rfl) | (rw [sus_n (by first | assumption | (rw [← hbe]; assumption))]; first | done | rfl)), agI (by omega), trivial⟩ ⟨rfl, rfl, rfl, rfl, rfl, trivial⟩ (by first | (rw [sus_y (by first | assumption | (rw [← hbe]; assumption)), List.length_append, List.flatMap_append]; rfl) | (rw [sus_n (by first | assumption | (rw [← hbe]; assumption))]; first | done | rfl)) rfl (by omega) (by omega)
  · refine ExL.nil ?_
    refine Ex.cond_f rfl ?_
    refine Ex.exit ?_
    obtain rfl : k = l.length - 1 := by omega
    refine Ex.regSeq (ExL.pures 3 rfl ?_)
    refine ExL.nil ?_
    refine Ex.ret ?_
    refine RetQ.mk (A, c) rfl (.tmp rfl (.tmp rfl .nil)) (rfl) [0] (rfl) rfl (trivial)
theorem e_9 : Enters Tryz.prog 9 := Enters.of Tryz.func9 rfl
theorem c_iSuspects (s : List Int) (hu : Nums 255 s) (As : Option Addr) (cs : Nat) (hls : s.length ≤ maxLen) (l : List VP) (Al : Option Addr) (cl : Nat) (hll : l.length ≤ maxLen) (f : VP) (hask : askS s l f = true) : Ret Tryz.prog 9 [.slice As s.length cs, .slice Al l.length cl, .agg (encP f).toArray] (fun w => Rd w As (s.flatMap (eI .u8)) ∧ Rd w Al (l.flatMap encP)) (fun x : Option Addr × Nat => .tuple #[.slice x.1 (susL (fitsF s l f) (l.length - 1)).length x.2, .int .i64 0]) (fun x => [.row (.slice x.1 (susL (fitsF s l f) (l.length - 1)).length x.2) 2 1 (susL (fitsF s l f) (l.length - 1)).length ((susL (fitsF s l f) (l.length - 1)).flatMap (eI .i64))]) (fun x => True) := by
  refine Ret.of e_9 Tryz.func9 rfl Tryz.ntmps9 rfl rfl (fun w hpre => ?_)
  have hs := hpre.1.base
  have hl := hpre.2.base
  have hm0 : maxLen = 9223372036854775807 := rfl
  obtain ⟨hL, hf⟩ := ask_of hask
  have hLl := hL.len
  refine Ex.regSeq (ExL.pures 0 rfl ?_)
  refine ExL.op rfl (op_box rfl rfl rfl rfl rfl (fun b1 => ?_))
  refine ExL.pures 2 rfl ?_
  refine ExL.nil ?_
  refine Ex.regSeq (ExL.pures 2 rfl ?_)
  refine ExL.free (fr_loadN rfl rfl rfl rfl rfl (SegO.whole (i := 0) rfl)) rfl rfl rfl ?_
  refine ExL.op rfl (op_ret rfl rfl rfl (c_detOf_t s (by assumption) _ _ (by omega) l _ _ (by omega) f hask) (fun w hw => ⟨Reads.get (Reads.old hs) w hw, Reads.get (Reads.old hl) w hw⟩) rfl rfl (fun x2 hx2 => ?_))
  refine ExL.pures 1 rfl ?_
  refine ExL.nil ?_
  refine Ex.seq ?_
  refine Ex.regSeq (ExL.pures 1 rfl ?_)
  refine ExL.free (fr_eql_ptr_s rfl rfl rfl rfl) rfl rfl rfl ?_
  refine ExL.nil ?_
  refine Ex.cond_f rfl ?_
  refine Ex.skip ?_
  refine Ex.regSeq (ExL.pures 0 rfl ?_)
  refine ExL.op rfl (op_buildSlice (sz := 1) rfl rfl rfl rfl rfl rfl rfl rfl (by decide) rfl rfl rfl (fun r3 => ?_))
  refine ExL.pures 1 rfl ?_
  refine ExL.nil ?_
  refine Ex.seq ?_
  refine Ex.regSeq (ExL.pures 1 rfl ?_)
  refine ExL.nil ?_
  refine Ex.block ?_
  refine Ex.loopA (fun k A c => [(9, .slice A ((susL (fitsF s l f) k)).length c), (10, .int .i64 ((k : Int) + 1))]) (fun k A c => [.row (.slice A ((susL (fitsF s l f) k)).length c) 2 1 ((susL (fitsF s l f) k)).length (((susL (fitsF s l f) k)).flatMap (eI .i64))]) (fun k => k ≤ l.length - 1) (fun k => l.length - k) 0 ((some ⟨r3, 0, none⟩)) (0) [(1, _), (6, _), (7, _), (8, _)] [_, _, _] 5 [0, 1, 2, 3] ⟨rfl, rfl, trivial⟩ ⟨rfl, rfl, rfl, rfl, trivial⟩ (rfl) rfl (Nat.zero_le _) (fun k A c hI => ?_)
  have hI : k ≤ l.length - 1 := hI
  have hsl := sus_len (fitsF s l f) k
  refine Ex.seq ?_
  refine Ex.regSeq (ExL.pures 3 rfl ?_)
  refine ExL.lss rfl rfl rfl rfl rfl rfl (fun h4 => ?_) (fun h4 => ?_)
  · refine ExL.nil ?_
    refine Ex.cond_t rfl ?_
    refine Ex.skip ?_
    refine Ex.seq ?_
    refine Ex.block ?_
    have hkl : k + 1 < l.length := by omega
    obtain ⟨hxl, hbe⟩ := canK_bool hx2.2 (i := k) (j := k + 1) (by omega) (by omega) (by omega)
    have hdl := hx2.1
    refine Ex.regSeq (ExL.pures 3 rfl ?_)
    refine ExL.free (fr_load rfl rfl rfl rfl (CellO.blk (i := 1) rfl rfl)) rfl rfl rfl ?_
    refine ExL.pures 1 rfl ?_
    refine ExL.free (Free.val (((k : Nat) : Int)) (fr_sub64 rfl rfl rfl (by omega)) (by omega)) rfl rfl rfl ?_
    refine ExL.free (fr_indexAddr (sz := 1) rfl rfl rfl rfl rfl rfl (by omega)) rfl rfl rfl ?_
    refine ExL.free (fr_load rfl rfl rfl rfl (cellJ (i := ↑k) (k) (Reads.row (i := 2) rfl) encX_len zX 0 rfl (by omega) (by omega) rfl)) rfl rfl rfl ?_
    refine ExL.pures 1 rfl ?_
    refine ExL.free (fr_indexAddrF (readsX (i := 3) rfl (k := k) (by omega)) eB_len rfl rfl rfl rfl rfl rfl (by omega)) rfl rfl rfl ?_
    refine ExL.free (fr_load rfl rfl rfl rfl (cellJ (i := (↑k + 1)) ((k + 1)) (readsX (i := 3) rfl (k := k) (by omega)) eB_len false 0 rfl (by omega) (by omega) rfl)) rfl rfl rfl ?_
    refine ExL.pures 1 rfl ?_
    refine ExL.nil ?_
    refine Ex.cond rfl (fun hb5 => ?_) (fun hb5 => ?_)
    · replace hb5 := nb_t hb5
      refine Ex.region (ExL.pures 2 rfl ?_)
      refine ExL.op rfl (op_buildSlice (sz := 1) rfl rfl rfl rfl rfl rfl rfl rfl (by decide) rfl rfl rfl (fun r6 => ?_))
      refine ExL.op rfl (op_append (sz := 1) (bytes := 8) (i := 1) rfl rfl rfl rfl (Reads.row (i := 0) rfl) rfl (fun e => nomatch e) rfl rfl rfl rfl (by constructor <;> first | omega | (unfold maxLen; omega)) rfl rfl (fun A7 cA7 => ?_))
      refine ExL.pures 1 rfl ?_
      refine ExL.nil ?_
      refine Ex.region (ExL.pures 1 rfl ?_)
      refine ExL.free (by first | exact fr_add64 rfl rfl rfl (by omega) | exact fr_add rfl rfl rfl) rfl rfl rfl ?_
      refine ExL.pures 1 rfl ?_
      refine ExL.nil ?_
      refine HandA.of (k + 1) (A7) (cA7) 5 [1, 2, 3, 4] ⟨(by first | (rw [sus_y (by first | assumption | (rw [← hbe]; assumption)), List.length_append]; rfl) | (rw [sus_n (by first | assumption | (rw [← hbe]; assumption))]; first | done | rfl)), agI (by omega), trivial⟩ ⟨rfl, rfl, rfl, rfl, trivial⟩ (by first | (rw [sus_y (by first | assumption | (rw [← hbe]; assumption)), List.length_append, List.flatMap_append]; rfl) | (rw [sus_n (by first | assumption | (rw [← hbe]; assumption))]; first | done | rfl)) rfl (by omega) (by omega)
    · replace hb5 := nb_f hb5
      refine Ex.skip ?_
      refine Ex.region (ExL.pures 1 rfl ?_)
      refine ExL.free (by first | exact fr_add64 rfl rfl rfl (by omega) | exact fr_add rfl rfl rfl) rfl rfl rfl ?_
      refine ExL.pures 1 rfl ?_
      refine ExL.nil ?_
      refine HandA.of (k + 1) (A) (c) 4 [0, 1, 2, 3] ⟨(by first | (rw [sus_y (by first | assumption | (rw [← hbe]; assumption)), List.length_append]; rfl) | (rw [sus_n (by first | assumption | (rw [← hbe]; assumption))]; first | done | rfl)), agI (by omega), trivial⟩ ⟨rfl, rfl, rfl, rfl, trivial⟩ (by first | (rw [sus_y (by first | assumption | (rw [← hbe]; assumption)), List.length_append, List.flatMap_append]; rfl) | (rw [sus_n (by first | assumption | (rw [← hbe]; assumption))]; first | done | rfl)) rfl (by omega) (by omega)
  · refine ExL.nil ?_
    refine Ex.cond_f rfl ?_
    refine Ex.exit ?_
    obtain rfl : k = l.length - 1 := by omega
    refine Ex.regSeq (ExL.pures 3 rfl ?_)
    refine ExL.nil ?_
    refine Ex.ret ?_
    refine RetQ.mk (A, c) rfl (.tmp rfl (.tmp rfl .nil)) (rfl) [0] (rfl) rfl (trivial)
theorem c_countsV (s : List Int) (hv : validStack s = true) (hu : Nums 255 s) (As : Option Addr) (cs : Nat) (hls : s.length ≤ maxLen) (a b f : VP) (hf : validFlow f = true) (ha : OkRd (size s) a) (hb : OkRd (size s) b) : Ret Tryz.prog 54 [.slice As s.length cs, .agg (encP a).toArray, .agg (encP b).toArray, .agg (encP f).toArray] (fun w => Rd w As (s.flatMap (eI .u8))) (fun x : Unit => .tuple #[.int .i64 (cntsV (size s) f a b).1, .int .i64 (cntsV (size s) f a b).2, .bool (fitV (size s) f a b)]) (fun x => []) (fun x => True) := by
  refine Ret.of e_54 Tryz.func54 rfl Tryz.ntmps54 rfl rfl (fun w hpre => ?_)
  have hs := hpre.base
  obtain ⟨ha1, ha2⟩ := ha
  obtain ⟨hb1, hb2⟩ := hb
  have hlo := low_bd hf ha1 hb1
  have hhi := high_bd hf ha1 hb1
  have hS := stk hv
  have hS1 := hS.le
  have hS2 := hS.size_
  have hS3 := hS.pos
  have hmd := md_bd (z := size s) (by omega)
  have hm0 : maxLen = 9223372036854775807 := rfl
  refine Ex.regSeq (ExL.pures 0 rfl ?_)
  refine ExL.op rfl (op_box rfl rfl rfl rfl rfl (fun b1 => ?_))
  refine ExL.op rfl (op_box rfl rfl rfl rfl rfl (fun b2 => ?_))
  refine ExL.op rfl (op_box rfl rfl rfl rfl rfl (fun b3 => ?_))
  refine ExL.pures 3 rfl ?_
  refine ExL.nil ?_
  refine Ex.regSeq (ExL.pures 0 rfl ?_)
  refine ExL.free (fr_loadN rfl rfl rfl rfl rfl (SegO.whole (i := 0) rfl)) rfl rfl rfl ?_
  refine ExL.free (fr_loadN rfl rfl rfl rfl rfl (SegO.whole (i := 2) rfl)) rfl rfl rfl ?_
  refine ExL.free (fr_loadN rfl rfl rfl rfl rfl (SegO.whole (i := 1) rfl)) rfl rfl rfl ?_
  refine ExL.op rfl (op_ret rfl rfl rfl (c_bounds f a b (by assumption) (by first | assumption | omega) (by first | assumption | omega)) (fun _ _ => trivial) rfl rfl (fun x4 hx4 => ?_))
  refine ExL.pures 5 rfl ?_
  refine ExL.nil ?_
  refine Ex.regSeq (ExL.pures 1 rfl ?_)
  refine ExL.op rfl (op_ret rfl rfl rfl (c_size _ (by assumption) _ _ (by first | assumption | omega | (unfold maxLen; omega))) (Reads.get (Reads.old hs)) rfl rfl (fun x5 hx5 => ?_))
  refine ExL.pures 1 rfl ?_
  refine ExL.nil ?_
  refine Ex.regSeq (ExL.pures 1 rfl ?_)
  refine ExL.free (fr_load rfl rfl rfl rfl (CellO.blk (i := 1) rfl rfl)) rfl rfl rfl ?_
  refine ExL.pures 1 rfl ?_
  refine ExL.free (fr_load rfl rfl rfl rfl (CellO.blk (i := 2) rfl rfl)) rfl rfl rfl ?_
  refine ExL.free (by first | exact fr_sub64 rfl rfl rfl (by omega) | exact fr_sub rfl rfl rfl) rfl rfl rfl ?_
  refine ExL.pures 1 rfl ?_
  refine ExL.free (by first | exact fr_sub64 rfl rfl rfl (by omega) | exact fr_sub rfl rfl rfl) rfl rfl rfl ?_
  refine ExL.pures 1 rfl ?_
  refine ExL.op rfl (op_ret rfl rfl rfl (c_wrapped _ _ (by omega) (by omega)) (fun _ _ => trivial) rfl rfl (fun x6 hx6 => ?_))
  refine ExL.pures 5 rfl ?_
  refine ExL.nil ?_
  refine Ex.regSeq (ExL.pures 2 rfl ?_)
  refine ExL.free (fr_load rfl rfl rfl rfl (CellO.blk (i := 1) rfl rfl)) rfl rfl rfl ?_
  refine ExL.pures 1 rfl ?_
  refine ExL.free (fr_load rfl rfl rfl rfl (CellO.blk (i := 2) rfl rfl)) rfl rfl rfl ?_
  refine ExL.free (by first | exact fr_sub64 rfl rfl rfl (by omega) | exact fr_sub rfl rfl rfl) rfl rfl rfl ?_
  refine ExL.free (by first | exact fr_sub64 rfl rfl rfl (by omega) | exact fr_sub rfl rfl rfl) rfl rfl rfl ?_
  refine ExL.pures 1 rfl ?_
  refine ExL.op rfl (op_ret rfl rfl rfl (c_wrapped _ _ (by omega) (by omega)) (fun _ _ => trivial) rfl rfl (fun x7 hx7 => ?_))
  refine ExL.pures 5 rfl ?_
  refine ExL.nil ?_
  have hm1 := hmd (b.b - a.b - lowF f a b)
  have hm2 := hmd (highF f a b - (b.b - a.b))
  refine Ex.regSeq (ExL.pures 2 rfl ?_)
  refine ExL.free (by first | exact fr_add64 rfl rfl rfl (by omega) | exact fr_add rfl rfl rfl) rfl rfl rfl ?_
  refine ExL.pures 2 rfl ?_
  refine ExL.free (by first | exact fr_sub64 rfl rfl rfl (by omega) | exact fr_sub rfl rfl rfl) rfl rfl rfl ?_
  refine ExL.pures 2 rfl ?_
  refine ExL.free (by first | exact fr_add64 rfl rfl rfl (by omega) | exact fr_add rfl rfl rfl) rfl rfl rfl ?_
  refine ExL.pures 1 rfl ?_
  refine ExL.free (fr_leq rfl rfl rfl) rfl rfl rfl ?_
  refine ExL.pures 3 rfl ?_
  refine ExL.nil ?_
  refine Ex.ret ?_
  refine RetQ.mk () rfl (.tmp rfl (.tmp rfl (.tmp rfl .nil))) (t3 rfl rfl (vB rfl)) [] (rfl) rfl (trivial)
end Go.Proofs.YtddflaaccmjoeaaGreatDoor

/- What these functions of the program hand back, each proved by walking its operations. -/
set_option linter.unusedVariables false
set_option linter.unusedSimpArgs false
set_option maxRecDepth 4000
namespace Go.Proofs.YtddflaaccmjoeaaGreatDoor
open Go Go.Sx Go.RowKit Go.W Go.Proofs
attribute [local irreducible] Ex ExL ExD Op1 Free RetQ MutQ Reads CellO SegO LoadsAs
theorem e_22 : Enters Tryz.prog 22 := Enters.of Tryz.func22 rfl
set_option maxHeartbeats 1000000 in
theorem c_iTotalS (s : List Int) (hu : Nums 255 s) (As : Option Addr) (cs : Nat) (hls : s.length ≤ maxLen) (l : List VP) (Al : Option Addr) (cl : Nat) (hll : l.length ≤ maxLen) (f : VP) (hask : askS s l f = true) (y : VSt) (Y1 : Option Addr) (yc1 : Nat) (Y2 : Option Addr) (yc2 : Nat) (hy : y.kept.length ≤ 1000 ∧ y.breaks.length ≤ 1000) : Ret Tryz.prog 22 [.slice As s.length cs, .slice Al l.length cl, .agg (encP f).toArray, .agg (encY Y1 yc1 Y2 yc2 y).toArray] (fun w => (Rd w As (s.flatMap (eI .u8)) ∧ Rd w Al (l.flatMap encP)) ∧ Rd w Y1 (y.kept.flatMap (eI .i64)) ∧ Rd w Y2 (y.breaks.flatMap (eI .i64))) (fun x : Int × Int × Int => .tuple #[.int .i64 x.1, .int .i64 x.2.1, .int .i64 x.2.2]) (fun x => []) (fun x => x.1 ≤ x.2.1 ∧ ((toldB (fitsF s l f) l.length y = true ∧ x.2.2 = 0) ∨ (toldB (fitsF s l f) l.length y = false ∧ x.2.2 = 4))) := by
  refine Ret.of e_22 Tryz.func22 rfl Tryz.ntmps22 rfl rfl (fun w hpre => ?_)
  have hky := hpre.2.1.base
  have hby := hpre.2.2.base
  have hs := hpre.1.1.base
  have hl := hpre.1.2.base
  have hm0 : maxLen = 9223372036854775807 := rfl
  obtain ⟨hL, hf⟩ := ask_of hask
  have hLl := hL.len
  obtain ⟨hy1, hy2⟩ := hy
  refine Ex.regSeq (ExL.pures 0 rfl ?_)
  refine ExL.op rfl (op_box rfl rfl rfl rfl rfl (fun b1 => ?_))
  refine ExL.op rfl (op_box rfl rfl rfl rfl rfl (fun b2 => ?_))
  refine ExL.pures 3 rfl ?_
  refine ExL.nil ?_
  refine Ex.regSeq (ExL.pures 2 rfl ?_)
  refine ExL.free (fr_loadN rfl rfl rfl rfl rfl (SegO.whole (i := 1) rfl)) rfl rfl rfl ?_
  refine ExL.op rfl (op_ret rfl rfl rfl (c_detOf_t s (by assumption) _ _ (by omega) l _ _ (by omega) f hask) (fun w hw => ⟨Reads.get (Reads.old hs) w hw, Reads.get (Reads.old hl) w hw⟩) rfl rfl (fun x3 hx3 => ?_))
  refine ExL.pures 1 rfl ?_
  refine ExL.nil ?_
  refine Ex.seq ?_
  refine Ex.block ?_
  refine Ex.regSeq (ExL.pures 1 rfl ?_)
  refine ExL.free (fr_eql_ptr_s rfl rfl rfl rfl) rfl rfl rfl ?_
  refine ExL.pures 1 rfl ?_
  refine ExL.nil ?_
  refine Ex.cond_f rfl ?_
  refine Ex.regSeq (ExL.pures 1 rfl ?_)
  refine ExL.free (fr_loadN rfl rfl rfl rfl rfl (SegO.whole (i := 3) rfl)) rfl rfl rfl ?_
  refine ExL.op rfl (op_ret rfl rfl rfl (c_told (fitsF s l f) l.length (by omega) x3.K hx3.1 hx3.2 _ _ _ _ _ _ _ y (Y1) (yc1) (Y2) (yc2) (by first | assumption | (constructor <;> omega))) (fun w hw => ⟨⟨Reads.get (Reads.blk (i := 0) rfl) w hw, Reads.get (Reads.row (i := 1) rfl) w hw, fun k hk => Reads.get (readsX (i := 2) rfl hk) w hw⟩, Reads.get (Reads.old hky) w hw, Reads.get (Reads.old hby) w hw⟩) rfl rfl (fun x4 hx4 => ?_))
  refine ExL.pures 2 rfl ?_
  refine ExL.nil ?_
  refine Ex.cond rfl (fun hb5 => ?_) (fun hb5 => ?_)
  · replace hb5 := nb_t hb5
    refine Ex.regSeq (ExL.pures 3 rfl ?_)
    refine ExL.nil ?_
    refine Ex.ret ?_
    refine RetQ.mk (0, 0, 4) rfl (.tmp rfl (.tmp rfl (.tmp rfl .nil))) (rfl) [] (rfl) rfl (by first | exact ⟨by dsimp only; omega, .inl ⟨by assumption, rfl⟩⟩ | exact ⟨by dsimp only; omega, .inr ⟨by assumption, rfl⟩⟩ | (exfalso; simp_all; done))
  · replace hb5 := nb_f hb5
    refine Ex.skip ?_
    have htd := told_t.1 (by assumption : toldB (fitsF s l f) l.length y = true)
    have hRk := htd.k
    have hkln := hRk.len
    have hvs9 := hL.stk
    have hzs := (stk hL.stk).size_
    have hzp := (stk hL.stk).pos
    have hzl := (stk hL.stk).le
    refine Ex.regSeq (ExL.pures 2 rfl ?_)
    refine ExL.nil ?_
    refine Ex.seq ?_
    refine Ex.regSeq (ExL.pures 1 rfl ?_)
    refine ExL.nil ?_
    refine Ex.block ?_
    refine Ex.loopK (X := TtlS) (fun q => [(12, .int .i64 q.lo), (13, .int .i64 q.hi), (14, .int .i64 ((q.k : Int) + 1))]) (fun q => []) (fun q => (q.k + 1 ≤ y.kept.length ∨ q.k = 0) ∧ q.lo ≤ q.hi ∧ -2000000000000 * (q.k : Int) ≤ q.lo ∧ q.hi ≤ 2000000000000 * (q.k : Int)) (fun q => y.kept.length - q.k) (⟨0, 0, 0⟩ : TtlS) [(0, _), (1, _), (6, _), (7, _), (8, _), (9, _), (10, _)] [_, _] 5 [3, 4] ⟨rfl, rfl, rfl, trivial⟩ ⟨rfl, rfl, rfl, rfl, rfl, rfl, rfl, trivial⟩ (rfl) rfl ⟨.inr rfl, by dsimp only; omega, by dsimp only; omega, by dsimp only; omega⟩ (fun q hI => ?_)
    have hI : (q.k + 1 ≤ y.kept.length ∨ q.k = 0) ∧ q.lo ≤ q.hi ∧ -2000000000000 * (q.k : Int) ≤ q.lo ∧ q.hi ≤ 2000000000000 * (q.k : Int) := hI
    obtain ⟨hk9, hlh, hlo, hhi⟩ := hI
    obtain ⟨k, hqk⟩ : ∃ k : Nat, q.k = k := ⟨_, rfl⟩
    rw [hqk] at hk9 hlo hhi
    rw [hqk]
    refine Ex.seq ?_
    refine Ex.regSeq (ExL.pures 2 rfl ?_)
    refine ExL.free (fr_load rfl rfl rfl rfl (CellO.blk (i := 0) rfl rfl)) rfl rfl rfl ?_
    refine ExL.pures 1 rfl ?_
    refine ExL.lss rfl rfl rfl rfl rfl rfl (fun h6 => ?_) (fun h6 => ?_)
    · refine ExL.nil ?_
      refine Ex.cond_t rfl ?_
      refine Ex.skip ?_
      refine Ex.seq ?_
      refine Ex.block ?_
      have hkl : k + 1 < y.kept.length := by omega
      refine Ex.seq ?_
      refine Ex.drawSeqM rfl ?_
      refine ExD.take (i := 0) rfl (by kernel_rfl) (pureVal_ok rfl) ((List.Sublist.refl _)) rfl rfl rfl ?_
      refine ExD.take (i := 1) rfl (by kernel_rfl) (fr_load rfl rfl rfl rfl (CellO.blk (i := 0) rfl rfl)) ((List.Sublist.refl _)) rfl rfl rfl ?_
      refine ExD.take (i := 2) rfl (by kernel_rfl) (pureVal_ok rfl) ((List.Sublist.refl _)) rfl rfl rfl ?_
      refine ExD.take (i := 3) rfl (by kernel_rfl) (fr_load rfl rfl rfl rfl (CellO.blk (i := 0) rfl rfl)) ((List.Sublist.refl _)) rfl rfl rfl ?_
      refine ExD.take (i := 4) rfl (by kernel_rfl) (pureVal_ok rfl) ((List.Sublist.refl _)) rfl rfl rfl ?_
      refine ExD.take (i := 5) rfl (by kernel_rfl) (fr_indexAddrF (Reads.old hky) (eI_len .i64) rfl rfl rfl rfl rfl rfl (by omega)) ((List.Sublist.refl _)) rfl rfl rfl ?_
      refine ExD.take (i := 6) rfl (by kernel_rfl) (fr_load rfl rfl rfl rfl (cellJ (i := (↑k + 1)) ((k + 1)) (Reads.old hky) (eI_len .i64) 0 0 rfl (by omega) (by omega) rfl)) ((List.Sublist.refl _)) rfl rfl rfl ?_
      refine ExD.op (i := 7) rfl (by kernel_rfl) rfl (op_ret rfl rfl rfl (c_nContains y.breaks _ _ (by omega) (y.kept.getD (k + 1) 0)) (Reads.get (Reads.old hby)) rfl rfl (fun x7 hx7 => ⟨(List.Sublist.refl _), ?_⟩))
      refine ExD.done (by kernel_rfl) ?_
      refine Ex.cond rfl (fun hb8 => ?_) (fun hb8 => ?_)
      · refine Ex.exit ?_
        refine Ex.region (ExL.pures 1 rfl ?_)
        refine ExL.free (by first | exact fr_add64 rfl rfl rfl (by omega) | exact fr_add rfl rfl rfl) rfl rfl rfl ?_
        refine ExL.pures 1 rfl ?_
        refine ExL.nil ?_
        refine Hand.mk ((⟨k + 1, q.lo, q.hi⟩ : TtlS)) 2 [0, 1] ⟨rfl, rfl, agI (by dsimp only; omega), trivial⟩ ⟨rfl, rfl, rfl, rfl, rfl, rfl, rfl, trivial⟩ (rfl) rfl (⟨by dsimp only; omega, by dsimp only; omega, by dsimp only; omega, by dsimp only; omega⟩) (by dsimp only; omega)
      · refine Ex.skip ?_
        obtain ⟨a, b_, ha, hb_, hab, hbn⟩ := hRk.nat (k := k) (by omega)
        have hra := hL.rd (i := a) (by omega)
        have hrb := hL.rd (i := b_) (by omega)
        have hcb := cnts_bd (s := s) (f := f) (a := l.getD a zP) (b := l.getD b_ zP) ⟨by omega, by omega⟩ hf hra.1 hrb.1
        have hcl := cnts_le (z := size s) (f := f) (a := l.getD a zP) (b := l.getD b_ zP) (by omega) (told_gap htd (by omega) ha hb_ (by assumption))
        refine Ex.drawSeqM rfl ?_
        refine ExD.take (i := 0) rfl (by kernel_rfl) (pureVal_ok rfl) ((List.Sublist.refl _)) rfl rfl rfl ?_
        refine ExD.take (i := 1) rfl (by kernel_rfl) (pureVal_ok rfl) ((List.Sublist.refl _)) rfl rfl rfl ?_
        refine ExD.take (i := 2) rfl (by kernel_rfl) (pureVal_ok rfl) ((List.Sublist.refl _)) rfl rfl rfl ?_
        refine ExD.take (i := 3) rfl (by kernel_rfl) (fr_load rfl rfl rfl rfl (CellO.blk (i := 0) rfl rfl)) ((List.Sublist.refl _)) rfl rfl rfl ?_
        refine ExD.take (i := 4) rfl (by kernel_rfl) (pureVal_ok rfl) ((List.Sublist.refl _)) rfl rfl rfl ?_
        refine ExD.take (i := 5) rfl (by kernel_rfl) (by first | exact fr_sub64 rfl rfl rfl (by omega) | exact fr_sub rfl rfl rfl) ((List.Sublist.refl _)) rfl rfl rfl ?_
        refine ExD.take (i := 6) rfl (by kernel_rfl) (fr_indexAddrF (Reads.old hky) (eI_len .i64) rfl rfl rfl rfl rfl rfl (by omega)) ((List.Sublist.refl _)) rfl rfl rfl ?_
        refine ExD.take (i := 7) rfl (by kernel_rfl) (fr_load (v := .int .i64 (a : Int)) rfl rfl rfl rfl (cellJ (i := ((k : Int) + 1 - 1)) k (Reads.old hky) (eI_len .i64) 0 0 rfl (by omega) (by omega) (by show some (Value.int .i64 _) = _; rw [ha]))) ((List.Sublist.refl _)) rfl rfl rfl ?_
        refine ExD.take (i := 8) rfl (by kernel_rfl) (fr_indexAddrF (Reads.old hl) encP_len rfl rfl rfl rfl rfl rfl (by omega)) ((List.Sublist.refl _)) rfl rfl rfl ?_
        refine ExD.take (i := 9) rfl (by kernel_rfl) (fr_loadN rfl rfl rfl rfl rfl (segJ (a) (Reads.old hl) encP_len rfl zP (by omega) (by omega))) ((List.Sublist.refl _)) rfl rfl rfl ?_
        refine ExD.take (i := 10) rfl (by kernel_rfl) (pureVal_ok rfl) ((List.Sublist.refl _)) rfl rfl rfl ?_
        refine ExD.take (i := 11) rfl (by kernel_rfl) (pureVal_ok rfl) ((List.Sublist.refl _)) rfl rfl rfl ?_
        refine ExD.take (i := 12) rfl (by kernel_rfl) (fr_load rfl rfl rfl rfl (CellO.blk (i := 0) rfl rfl)) ((List.Sublist.refl _)) rfl rfl rfl ?_
        refine ExD.take (i := 13) rfl (by kernel_rfl) (pureVal_ok rfl) ((List.Sublist.refl _)) rfl rfl rfl ?_
        refine ExD.take (i := 14) rfl (by kernel_rfl) (fr_indexAddrF (Reads.old hky) (eI_len .i64) rfl rfl rfl rfl rfl rfl (by omega)) ((List.Sublist.refl _)) rfl rfl rfl ?_
        refine ExD.take (i := 15) rfl (by kernel_rfl) (fr_load (v := .int .i64 (b_ : Int)) rfl rfl rfl rfl (cellJ (i := ((k : Int) + 1)) (k + 1) (Reads.old hky) (eI_len .i64) 0 0 rfl (by omega) (by omega) (by show some (Value.int .i64 _) = _; rw [hb_]))) ((List.Sublist.refl _)) rfl rfl rfl ?_
        refine ExD.take (i := 16) rfl (by kernel_rfl) (fr_indexAddrF (Reads.old hl) encP_len rfl rfl rfl rfl rfl rfl (by omega)) ((List.Sublist.refl _)) rfl rfl rfl ?_
        refine ExD.take (i := 17) rfl (by kernel_rfl) (fr_loadN rfl rfl rfl rfl rfl (segJ (b_) (Reads.old hl) encP_len rfl zP (by omega) (by omega))) ((List.Sublist.refl _)) rfl rfl rfl ?_
        refine ExD.take (i := 18) rfl (by kernel_rfl) (fr_loadN rfl rfl rfl rfl rfl (SegO.whole (i := 1) rfl)) ((List.Sublist.refl _)) rfl rfl rfl ?_
        refine ExD.op (i := 19) rfl (by kernel_rfl) rfl (op_ret rfl rfl rfl (c_countsV s (by assumption) (by assumption) _ _ (by omega) (l.getD a zP) (l.getD b_ zP) f (by assumption) (by assumption) (by assumption)) (Reads.get (Reads.old hs)) rfl rfl (fun x9 hx9 => ⟨(List.Sublist.refl _), ?_⟩))
        refine ExD.take (i := 20) rfl (by kernel_rfl) (pureVal_ok rfl) ((List.Sublist.refl _)) rfl rfl rfl ?_
        refine ExD.take (i := 21) rfl (by kernel_rfl) (pureVal_ok rfl) ((List.Sublist.refl _)) rfl rfl rfl ?_
        refine ExD.take (i := 22) rfl (by kernel_rfl) (pureVal_ok rfl) ((List.Sublist.refl _)) rfl rfl rfl ?_
        refine ExD.take (i := 23) rfl (by kernel_rfl) (pureVal_ok rfl) ((List.Sublist.refl _)) rfl rfl rfl ?_
        refine ExD.take (i := 24) rfl (by kernel_rfl) (pureVal_ok rfl) ((List.Sublist.refl _)) rfl rfl rfl ?_
        refine ExD.take (i := 25) rfl (by kernel_rfl) (pureVal_ok rfl) ((List.Sublist.refl _)) rfl rfl rfl ?_
        refine ExD.take (i := 26) rfl (by kernel_rfl) (pureVal_ok rfl) ((List.Sublist.refl _)) rfl rfl rfl ?_
        refine ExD.done (by kernel_rfl) ?_
        refine Ex.regSeq (ExL.pures 2 rfl ?_)
        refine ExL.free (by first | exact fr_add64 rfl rfl rfl (by omega) | exact fr_add rfl rfl rfl) rfl rfl rfl ?_
        refine ExL.pures 1 rfl ?_
        refine ExL.nil ?_
        refine Ex.region (ExL.pures 2 rfl ?_)
        refine ExL.free (by first | exact fr_add64 rfl rfl rfl (by omega) | exact fr_add rfl rfl rfl) rfl rfl rfl ?_
        refine ExL.pures 1 rfl ?_
        refine ExL.nil ?_
        refine Ex.region (ExL.pures 1 rfl ?_)
        refine ExL.free (by first | exact fr_add64 rfl rfl rfl (by omega) | exact fr_add rfl rfl rfl) rfl rfl rfl ?_
        refine ExL.pures 1 rfl ?_
        refine ExL.nil ?_
        refine Hand.mk ((⟨k + 1, (q.lo + (cntsV (size s) f (l.getD a zP) (l.getD b_ zP)).1), (q.hi + (cntsV (size s) f (l.getD a zP) (l.getD b_ zP)).2)⟩ : TtlS)) 2 [0, 1] ⟨rfl, rfl, agI (by dsimp only; omega), trivial⟩ ⟨rfl, rfl, rfl, rfl, rfl, rfl, rfl, trivial⟩ (rfl) rfl (⟨by dsimp only; omega, by dsimp only; omega, by dsimp only; omega, by dsimp only; omega⟩) (by dsimp only; omega)
    · refine ExL.nil ?_
      refine Ex.cond_f rfl ?_
      refine Ex.exit ?_
      refine Ex.regSeq (ExL.pures 5 rfl ?_)
      refine ExL.nil ?_
      refine Ex.ret ?_
      refine RetQ.mk (q.lo, q.hi, 0) rfl (.tmp rfl (.tmp rfl (.tmp rfl .nil))) (rfl) [] (rfl) rfl (by first | exact ⟨by dsimp only; omega, .inl ⟨by assumption, rfl⟩⟩ | exact ⟨by dsimp only; omega, .inr ⟨by assumption, rfl⟩⟩ | (exfalso; simp_all; done))
end Go.Proofs.YtddflaaccmjoeaaGreatDoor

/- Strings built by a builder; the decimal digits as the library and the specification write them. -/
set_option linter.unusedVariables false
set_option linter.unusedSimpArgs false
namespace Go.Sx
open Go Go.RowKit
variable {C : Cx} {env env' : Env} {m m' : List Ent} {o : Oper} {K : Env → List Ent → Prop}
abbrev bp (b : Nat) (u : Bool) : Value := .pointer (bif u then some ⟨b, 0, none⟩ else none)
theorem op_appendT {d : Nat} {i : Nat} {s x T TS E A c} {xs l : List UInt8} (ho : o.op = .call { callee := .builtin .append, args := #[s, x], argTypes := #[T, TS] })
    (hs : ev env s = some (.slice A xs.length c)) (hx : ev env x = some (sv l)) (hi : m[i]? = some (.row (.slice A xs.length c) E 1 xs.length (xs.flatMap eU))) (hT : C.P.underlying T = some (.slice E)) (hTS : C.P.underlying TS = some .string)
    (hz : (C.P.info? E).map (fun i => (i.size, i.bytes)) = some (1, 1)) (hzz : (C.P.info? E).bind (·.zero) = some (.int .u8 0))
    (hb : xs.length + l.length ≤ 140737488355328) (hd : o.dst = some d) (hlt : Nat.blt d C.n = true)
    (h : ∀ A' c', K ((d, .slice A' (xs ++ l).length c') :: env) (m.set i (.row (.slice A' (xs ++ l).length c') E 1 (xs ++ l).length ((xs ++ l).flatMap eU)))) : Op1 C o env m K := by
  have e : (xs ++ l).length = xs.length + l.length := List.length_append
  refine op_appendS ho hs hx hi hT hTS hz hzz hb hd hlt fun A' c' => ?_
  have := h A' c'
  rwa [e] at this
/-- What is known of a row that is not empty. -/
theorem row_own {i n c sz : Nat} {A : Option Addr} {E xs} (hi : m[i]? = some (.row (.slice A n c) E sz n xs)) (hn : 0 < n) : ∀ w, Holds C.base C.w0 m w → ∃ g, A = some ⟨g, 0, none⟩ ∧ c ≠ 0 := fun w hw => by
  have h := hw.all _ (List.mem_of_getElem? hi)
  rcases h.2 with ⟨_, h0⟩ | ⟨g, cap, cur, hv, _, _, hc, _⟩
  · omega
  · simp only [Value.slice.injEq] at hv
    exact ⟨g, hv.1, by omega⟩
theorem fr_sliceData {T x : _} {a : Addr} {n c : Nat} (ho : o.op = .call { callee := .builtin .unsafeSliceData, args := #[x], argTypes := #[T] }) (hx : ev env x = some (.slice (some a) n c)) (hc : c ≠ 0) : Free C o env m (.pointer (some a)) := by
  intro w0 w hr _
  have h := Lib.run_unsafeSliceData_row (P := C.P) w #[T] o.type a n c hc
  simp only [execOp, ho, resolve, invoke]
  simp [hr.ev hx, builtin, h]
theorem fr_sliceData_n {T x : _} {n c : Nat} (ho : o.op = .call { callee := .builtin .unsafeSliceData, args := #[x], argTypes := #[T] }) (hx : ev env x = some (.slice none n c)) : Free C o env m (.pointer none) := by
  intro w0 w hr _
  have h := Lib.run_unsafeSliceData_nil (P := C.P) w #[T] o.type n c
  simp only [execOp, ho, resolve, invoke]
  simp [hr.ev hx, builtin, h]
theorem fr_unsafeString_n {pt it p q} (ho : o.op = .call { callee := .builtin .unsafeString, args := #[p, q], argTypes := #[pt, it] }) {pp : Option Addr} (hp : ev env p = some (.pointer pp)) (hq : ev env q = some (.int .i64 0)) : Free C o env m (sv []) := by
  intro w0 w hr _
  have h := Lib.run_unsafeString_none (P := C.P) w pt it o.type pp
  simp only [execOp, ho, resolve, invoke]
  simp [hr.ev hp, hr.ev hq, builtin, h]
  rfl
theorem Holds.frz {base w0 w g n c E sz k xs} (h : Holds base w0 (.row (.slice (some ⟨g, 0, none⟩) n c) E sz n xs :: m) w) : Holds base w0 m (w.freeze ⟨g, 0, none⟩ k) := by
  have hall := h.all
  have hg0 := (Ent.holds.lt (hall _ (List.mem_cons_self ..)) g rfl)
  have hgr : w.grownBy (w.freeze ⟨g, 0, none⟩ k) (some g) := by
    unfold World.freeze
    split
    · exact ⟨rfl, rfl, rfl, Nat.le_refl _, fun _ _ _ => rfl⟩
    · exact ⟨rfl, rfl, rfl, by simp, fun j hj hne => by
        simp only [Array.getElem?_modify]
        rw [if_neg (by intro e; exact hne (by rw [e]))]⟩
  have hap := List.pairwise_cons.1 h.apart
  refine ⟨Lib.below_freeze h.below (p := ⟨g, 0, none⟩) hg0.1 k, h.le, fun e he => ?_, hap.2, h.others.trans (KeepsOthers.of_grownBy hgr fun j o' hj ho => (hall _ (List.mem_cons_self ..)).cells rfl j o' hj ho)⟩
  exact (hall e (List.mem_cons_of_mem _ he)).grown hgr (fun b hb heb => by
    obtain rfl := Option.some.inj heb
    exact hap.1 e he _ rfl hb)
/-- unsafe.String over a row of bytes: the row is given away. -/
theorem op_unsafeString {d i : Nat} {pt it p q U g c n : _} {l : List UInt8} {E} (ho : o.op = .call { callee := .builtin .unsafeString, args := #[p, q], argTypes := #[pt, it] })
    (hp : ev env p = some (.pointer (some ⟨g, 0, none⟩))) (hq : ev env q = some (.int .i64 n)) (hi : m[i]? = some (.row (.slice (some ⟨g, 0, none⟩) l.length c) E 1 l.length (l.flatMap eU))) (hn : n = (l.length : Int))
    (hpt : C.P.underlying pt = some (.pointer U)) (hU : U = E) (hc : C.P.cellsOf U = 1) (h0 : 0 < l.length) (hd : o.dst = some d) (hlt : Nat.blt d C.n = true)
    (h : K ((d, sv l) :: env) (m.eraseIdx i)) : Op1 C o env m K := by
  subst hn hU
  refine Op1.of_run hd hlt fun a w hr hh => ?_
  have hown := hh.all _ (List.mem_of_getElem? hi)
  have hown : w.ownsRow C.base U 1 (.slice (some ⟨g, 0, none⟩) l.length c) l.length (l.flatMap eU) := hown
  obtain ⟨hxs, ⟨hv, _⟩ | ⟨g', cap, cur, hv, hb, hg, hnc, hcm, hcs, ht⟩⟩ := hown
  · simp at hv
  simp only [Value.slice.injEq, Option.some.injEq, Addr.mk.injEq, and_true, true_and] at hv
  obtain ⟨rfl, rfl⟩ := hv
  have hmx : maxLen = 9223372036854775807 := rfl
  have hsh : w.shape? g = some (U, c) := by simp [World.shape?, hg]; omega
  have hget : ∀ j x, l[j]? = some x → w.cell? ((⟨g, 0, none⟩ : Addr).add j) = some (.int .u8 x.toNat) := fun j x hj => by
    have hjl := (List.getElem?_eq_some_iff.1 hj).1
    have := flat_get eU_len (0 : UInt8) l j 0 hjl (by omega)
    simp only [Nat.mul_one, Nat.add_zero] at this
    rw [← ht, List.getElem?_take] at this
    rw [if_pos (by omega)] at this
    have hx : l.getD j 0 = x := by simp [List.getD, hj]
    rw [hx] at this
    simp only [eU, List.getElem?_cons_zero] at this
    have h2 : cur[j]? = some (.int .u8 (x.toNat : Int)) := by rw [← Array.getElem?_toList]; exact this
    unfold World.cell? Addr.add
    by_cases hj0 : j = 0
    · subst hj0; simpa [hg] using h2
    · simpa [hj0, hg] using h2
  have hrun := Lib.run_unsafeString_row (P := C.P) w pt it o.type U hpt hc g c hsh l (by intro e; subst e; simp at h0) (by omega) (by omega) hget
  refine ⟨_, w.freeze ⟨g, 0, none⟩ l.length, _, ?_, ?_, h⟩
  · simp [execOp, ho, resolve, invoke, builtin, hr.ev hp, hr.ev hq, hrun]
  · have hp' : m.Perm (.row (.slice (some ⟨g, 0, none⟩) l.length c) U 1 l.length (l.flatMap eU) :: m.eraseIdx i) := by
      obtain ⟨hlt', hgi⟩ := List.getElem?_eq_some_iff.1 hi
      rw [← hgi]
      rw [List.eraseIdx_eq_take_drop_succ]
      have h9 : m = m.take i ++ m[i] :: m.drop (i + 1) := by rw [List.getElem_cons_drop, List.take_append_drop]
      exact (List.Perm.of_eq h9).trans List.perm_middle
    exact (hh.perm hp').frz
/-! ### The library's table of powers of ten -/
def TabO (P : Program) (w : World) : Prop := Lib.TabIs P w "internal/strconv.uint64pow10" .u64 Lib.pow10Tab
theorem TabO.below {P w w'} (h : TabO P w) (hb : Below w.heap.size w w') : TabO P w' := by
  unfold TabO Lib.TabIs World.var? at h ⊢
  cases hg : P.globalNamed "internal/strconv.uint64pow10" with
  | none => simp [hg] at h
  | some g =>
    simp only [hg, Option.bind_some] at h ⊢
    have hlt : g < w.heap.size := by
      rcases Nat.lt_or_ge g w.heap.size with h1 | h1
      · exact h1
      · rw [Array.getElem?_eq_none h1] at h; simp at h
    rw [hb.block g hlt]
    exact h
theorem below_grw (w : World) (k : Nat) (os : Array Obj) : Below w.heap.size w (Sort.grow (w.drewN k) os) :=
  ⟨rfl, rfl, rfl, by show w.heap.size ≤ (w.heap ++ os).size; rw [Array.size_append]; omega, fun j hj => by show (w.heap ++ os)[j]? = _; rw [Array.getElem?_append_left hj]⟩
theorem TabO.keep {P w0 m w} (h : TabO P w0) (hh : Holds w0.heap.size w0 m w) : TabO P w := h.below hh.below
theorem itoa_nn {n : Int} (h : 0 ≤ n) : Lib.itoa n = Lib.decDigits n.toNat := by unfold Lib.itoa; rw [if_neg (by omega)]
theorem itoa_pos (n : Int) : 1 ≤ (Lib.itoa n).length := by
  unfold Lib.itoa
  split
  · simp
  · rw [Lib.decDigits_length]; exact Lib.nDigits_pos _
theorem nDig_le : ∀ (k u : Nat), u < 10 ^ k → 1 ≤ k → Lib.nDigits u ≤ k
  | 0, _, _, h => absurd h (by omega)
  | k + 1, u, hu, _ => by
    by_cases h : u < 10
    · rw [Lib.nDigits_small h]; omega
    · rw [Lib.nDigits_big h]
      have hk : 1 ≤ k := by
        rcases k with _ | k
        · simp at hu; omega
        · omega
      have := nDig_le k (u / 10) (by rw [Nat.pow_succ] at hu; omega) hk
      omega
theorem itoa_le {n : Int} (h : -9223372036854775808 ≤ n ∧ n ≤ 9223372036854775807) : (Lib.itoa n).length ≤ 20 := by
  unfold Lib.itoa
  split
  · rw [List.length_cons, Lib.decDigits_length]
    have := nDig_le 19 n.natAbs (by omega) (by omega)
    omega
  · rw [Lib.decDigits_length]
    have := nDig_le 19 n.toNat (by omega) (by omega)
    omega
theorem itoa_one {n : Int} (h : 0 ≤ n) (h1 : n < 10) : Lib.itoa n = [UInt8.ofNat (48 + n % 10).toNat] := by
  rw [itoa_nn h, Lib.decDigits, dif_pos (by omega)]
  congr 2
  omega
theorem itoa_more {n : Int} (h : 0 ≤ n) (h1 : ¬ n < 10) : Lib.itoa n = Lib.itoa (n / 10) ++ [UInt8.ofNat (48 + n % 10).toNat] := by
  rw [itoa_nn h, itoa_nn (by omega), Lib.decDigits, dif_neg (by omega)]
  congr 3
  · omega
  · omega
theorem tS {a b : List UInt8} (h : a = b) : tupleOf [sv a] = sv b := by rw [h]; rfl
/-! ### Lines laid one behind the other -/
def joinT (f : Nat → List UInt8) : Nat → List UInt8
  | 0 => []
  | k + 1 => joinT f k ++ f k
theorem joinT_le {f : Nat → List UInt8} {B : Nat} : ∀ (n : Nat), (∀ i, i < n → (f i).length ≤ B) → (joinT f n).length ≤ n * B
  | 0, _ => by simp [joinT]
  | n + 1, h => by
    rw [joinT, List.length_append, Nat.succ_mul]
    have := joinT_le n fun i hi => h i (by omega)
    have := h n (by omega)
    omega
theorem joinT_pos {f : Nat → List UInt8} (h : ∀ i, 1 ≤ (f i).length) : ∀ (n : Nat), 0 < n → 0 < (joinT f n).length
  | n + 1, _ => by rw [joinT, List.length_append]; have := h n; omega
end Go.Sx

/- Rows of strings; texts joined. -/
set_option linter.unusedVariables false
set_option linter.unusedSimpArgs false
namespace Go.Sx
open Go Go.RowKit
variable {C : Cx} {env env' : Env} {m m' : List Ent} {o : Oper} {K : Env → List Ent → Prop}
def eSt (l : List UInt8) : List Value := [sv l]
theorem eSt_len : ∀ l, (eSt l).length = 1 := fun _ => rfl
def mkB (l : List UInt8) : ByteArray := ⟨l.toArray⟩
theorem mkB_map (xs : List (List UInt8)) : (xs.map mkB).map (·.data.toList) = xs := by
  rw [List.map_map]
  exact List.map_id _
theorem join_pre {w : World} {A : Option Addr} {xs : List (List UInt8)} (h : Rd w A (xs.flatMap eSt)) (h0 : 0 < xs.length) : ∃ bk o', A = some ⟨bk, o', none⟩ ∧ bk < w.heap.size ∧ ∀ (j : Nat) x, (xs.map mkB)[j]? = some x → w.cell? ⟨bk, o' + j, none⟩ = some (.string x) := by
  have hget : ∀ j (hj : j < xs.length), (xs.flatMap eSt)[j]? = some (sv (xs.getD j [])) := fun j hj => by
    have := flat_get eSt_len ([] : List UInt8) xs j 0 hj (by omega)
    simp only [Nat.mul_one, Nat.add_zero] at this
    rw [this]; rfl
  obtain ⟨⟨bk, o', sp⟩, rfl, hc⟩ := h 0 _ (hget 0 h0)
  have hz : (⟨bk, o', sp⟩ : Addr).add 0 = ⟨bk, o', sp⟩ := by unfold Addr.add; simp
  rw [hz] at hc
  have hsp : sp = none := by simpa using World.cell?_spot hc
  subst hsp
  refine ⟨bk, o', rfl, World.block_lt_of_cell? _ _ hc, fun j x hx => ?_⟩
  have hj : j < xs.length := by have := (List.getElem?_eq_some_iff.1 hx).1; simpa using this
  obtain ⟨ad, e1, hc'⟩ := h j _ (hget j hj)
  obtain rfl := Option.some.inj e1
  rw [add_at] at hc'
  rw [hc']
  rw [List.getElem?_map] at hx
  have hg : xs[j]? = some xs[j] := List.getElem?_eq_getElem hj
  rw [hg] at hx
  simp only [Option.map_some, Option.some.injEq] at hx
  rw [← hx]
  simp [List.getD, hj, sv, mkB]
theorem row_cap' {i n c sz : Nat} {A : Option Addr} {E xs} (hi : m[i]? = some (.row (.slice A n c) E sz n xs)) : ∀ w, Holds C.base C.w0 m w → n ≤ c := fun w hw => by
  have h := hw.all _ (List.mem_of_getElem? hi)
  rcases h.2 with ⟨hv, h0⟩ | ⟨g, cap, cur, hv, _, _, hc, _⟩
  · omega
  · simp only [Value.slice.injEq] at hv
    omega
theorem itoa_neg {n : Int} (h : n < 0) : Lib.itoa n = 45 :: Lib.itoa (-n) := by
  rw [itoa_nn (n := -n) (by omega)]
  unfold Lib.itoa
  rw [if_pos h]
  congr 2
  omega
end Go.Sx

/- The text of digits. -/
set_option linter.unusedVariables false
namespace Go.W
open Go Go.Sx
/-- The first k parts. -/
def partsF (f : Nat → List UInt8) (k : Nat) : List (List UInt8) := (List.range k).map f
theorem partsF_len (f : Nat → List UInt8) (k : Nat) : (partsF f k).length = k := by simp [partsF]
theorem partsF_s (f : Nat → List UInt8) (k : Nat) : partsF f (k + 1) = partsF f k ++ [f k] := by simp [partsF, List.range_succ]
theorem joinTail_snoc (sep : List UInt8) (r : List (List UInt8)) (x : List UInt8) : Lib.joinTail sep (r ++ [x]) = Lib.joinTail sep r ++ (sep ++ x) := by simp [Lib.joinTail]
theorem join_snoc {xs : List (List UInt8)} (h : xs ≠ []) (x sep : List UInt8) : Lib.join (xs ++ [x]) sep = Lib.join xs sep ++ sep ++ x := by
  cases xs with
  | nil => exact absurd rfl h
  | cons y r => rw [List.cons_append, Lib.join_cons, Lib.join_cons, joinTail_snoc, List.append_assoc, List.append_assoc]
/-- The parts joined by one that lays them one behind the other, a separator behind each but the last of n. -/
def sepT (f : Nat → List UInt8) (sep : List UInt8) (n k : Nat) : List UInt8 := if k = 0 then [] else Lib.join (partsF f k) sep ++ (if k < n then sep else [])
theorem sepT_mid {f : Nat → List UInt8} {sep : List UInt8} {n k : Nat} (h : k < n) : Lib.join (partsF f (k + 1)) sep = sepT f sep n k ++ f k := by
  unfold sepT
  by_cases h0 : k = 0
  · subst h0
    rw [if_pos rfl]
    show Lib.join [f 0] sep = _
    rw [Lib.join_one]; rfl
  · rw [if_neg h0, if_pos h, partsF_s, join_snoc (by intro e; have := partsF_len f k; rw [e] at this; simp at this; omega)]
theorem sepT_s {f : Nat → List UInt8} {sep : List UInt8} {n k : Nat} (h : k + 1 < n) : sepT f sep n (k + 1) = sepT f sep n k ++ f k ++ sep := by
  rw [← sepT_mid (by omega : k < n)]
  show (if k + 1 = 0 then _ else _) = _
  rw [if_neg (by omega), if_pos h]
theorem sepT_l {f : Nat → List UInt8} {sep : List UInt8} {n k : Nat} (h : k + 1 = n) : sepT f sep n (k + 1) = sepT f sep n k ++ f k := by
  rw [← sepT_mid (by omega : k < n)]
  show (if k + 1 = 0 then _ else _) = _
  rw [if_neg (by omega), if_neg (by omega), List.append_nil]
theorem sepT_end {f : Nat → List UInt8} {sep : List UInt8} {n : Nat} : sepT f sep n n = Lib.join (partsF f n) sep := by
  unfold sepT
  split
  · rename_i h; subst h; rfl
  · rw [if_neg (by omega), List.append_nil]
theorem sepT_le {f : Nat → List UInt8} {sep : List UInt8} {B n : Nat} (hf : ∀ i, i < n → (f i).length ≤ B) : ∀ k, k ≤ n → (sepT f sep n k).length ≤ k * (B + sep.length)
  | 0, _ => by simp [sepT]
  | k + 1, h => by
    have ih := sepT_le (sep := sep) hf k (by omega)
    have h1 := hf k (by omega)
    rw [Nat.succ_mul]
    rcases Nat.lt_or_ge (k + 1) n with h2 | h2
    · rw [sepT_s h2, List.length_append, List.length_append]; omega
    · rw [sepT_l (by omega), List.length_append]; omega
/-! ### A digit, the digits -/
def dgT (b d : Int) : List UInt8 := if 10 < b ∧ d < 10 then 48 :: Lib.itoa d else Lib.itoa d
theorem itoa_len1 {d : Int} (h : 0 ≤ d) (h1 : d < 10) : (Lib.itoa d).length = 1 := by rw [itoa_one h h1]; rfl
theorem itoa_len2 {d : Int} (h : 10 ≤ d) (h1 : d < 100) : (Lib.itoa d).length = 2 := by
  rw [itoa_more (by omega) (by omega), List.length_append, itoa_len1 (by omega) (by omega)]; rfl
theorem dgT_le {b d : Int} (h : 0 ≤ d) (h1 : d < 100) : (dgT b d).length ≤ 2 := by
  unfold dgT
  split
  · rename_i h2; rw [List.length_cons, itoa_len1 h h2.2]; omega
  · rcases Int.lt_or_le d 10 with h2 | h2
    · rw [itoa_len1 h h2]; omega
    · rw [itoa_len2 h2 h1]; omega
theorem dgT_pos (b d : Int) : 1 ≤ (dgT b d).length := by
  unfold dgT
  split
  · simp
  · exact itoa_pos d
/-- The part of place j, from the top. -/
def dpart (s l : List Int) (j : Nat) : List UInt8 := dgT (s.getD (s.length - 1 - j) 0) (l.getD (s.length - 1 - j) 0)
def digT (s l : List Int) : List UInt8 := Lib.join (partsF (dpart s l) s.length) [58]
def digTx (s l : List Int) : List UInt8 := if (validStack s && validDig s l) = true then digT s l else []
theorem digTx_f {s l : List Int} (h : (validStack s && validDig s l) = false) : digTx s l = [] := by unfold digTx; rw [if_neg (by simp [h])]
theorem digTx_t {s l : List Int} (h : (validStack s && validDig s l) = true) : digTx s l = digT s l := by unfold digTx; rw [if_pos h]
theorem dpart_le {s l : List Int} (hs : Stk s) (hd : DigOk s l) {j : Nat} (hj : j < s.length) : (dpart s l j).length ≤ 2 := by
  have h1 := hs.bases (s.length - 1 - j) (by omega)
  have h2 := hd (s.length - 1 - j) (by omega)
  exact dgT_le h2.1 (by omega)
theorem sepD_le {s l : List Int} (hs : Stk s) (hd : DigOk s l) {k : Nat} (hk : k ≤ s.length) : (sepT (dpart s l) [58] s.length k).length ≤ 24 := by
  have h1 := sepT_le (f := dpart s l) (sep := [58]) (B := 2) (n := s.length) (fun i hi => dpart_le hs hd hi) k hk
  have h2 := hs.len8
  simp only [List.length_cons, List.length_nil] at h1
  omega
theorem digT_le {s l : List Int} (hs : Stk s) (hd : DigOk s l) : (digT s l).length ≤ 24 := by
  unfold digT
  rw [← sepT_end]
  exact sepD_le hs hd (Nat.le_refl _)
end Go.W
namespace Go.W
open Go Go.Sx
def padT (n d : Int) : List UInt8 := (if max 0 (d - ((Lib.itoa n).length : Int)) = 1 then [48] else []) ++ Lib.itoa n
theorem pad_dg {b d : Int} (hb : 2 ≤ b ∧ b ≤ 100) (hd : 0 ≤ d ∧ d < b) : ((Lib.itoa (b - 1)).length : Int) ≤ (Lib.itoa d).length + 1 ∧ padT d ((Lib.itoa (b - 1)).length : Int) = dgT b d := by
  unfold padT dgT
  rcases Int.lt_or_le d 10 with h1 | h1
  · rw [itoa_len1 hd.1 h1]
    rcases Int.lt_or_le (b - 1) 10 with h2 | h2
    · rw [itoa_len1 (by omega) h2, if_neg (by omega), if_neg (by omega)]
      exact ⟨by omega, rfl⟩
    · rw [itoa_len2 h2 (by omega), if_pos (by omega), if_pos ⟨by omega, h1⟩]
      exact ⟨by omega, rfl⟩
  · rw [itoa_len2 h1 (by omega), itoa_len2 (d := b - 1) (by omega) (by omega), if_neg (by omega), if_neg (by omega)]
    exact ⟨by omega, rfl⟩
end Go.W

/- The text of totals. -/
set_option linter.unusedVariables false
namespace Go.W
open Go Go.Sx
/-- A builder in a loop: how far, whether it was written, where its bytes lie. -/
structure BdS where
  k : Nat
  u : Bool
  A : Option Addr
  c : Nat
end Go.W

/- The texts of a ticket and of a log. -/
set_option linter.unusedVariables false
namespace Go.W
open Go Go.Sx
def dsv (s : List Int) (v : Int) : List Int := (dig (digs s v)).l
def logLn (s : List Int) (x : VP) : List UInt8 := Lib.itoa x.a ++ [32] ++ digT s (dsv s x.b) ++ [10]
def lText (s : List Int) (l : List VP) (k : Nat) : List UInt8 := joinT (fun i => logLn s (l.getD i zP)) k
def logTx (s : List Int) (l : List VP) : List UInt8 := if validLog s l = true then lText s l l.length else []
theorem logTx_f {s : List Int} {l : List VP} (h : validLog s l = false) : logTx s l = [] := if_neg (by simp [h])
theorem logTx_t {s : List Int} {l : List VP} (h : validLog s l = true) : logTx s l = lText s l l.length := if_pos h
theorem dsv_num {s : List Int} (h : Stk s) (v : Int) : Nums 255 (dsv s v) := by unfold dsv; rw [dig_l (digs_len _ _)]; exact digs_num h.bases
theorem dsv_valid {s : List Int} (h : Stk s) (v : Int) : validDig s (dsv s v) = true := by unfold dsv; rw [dig_l (digs_len _ _)]; exact digs_valid h
theorem dsv_tx {s : List Int} (hv : validStack s = true) (v : Int) : digTx s (dsv s v) = digT s (dsv s v) := digTx_t (by rw [hv, dsv_valid (stk hv)]; rfl)
theorem dsv_le {s : List Int} (hv : validStack s = true) (v : Int) : (digT s (dsv s v)).length ≤ 24 := digT_le (stk hv) (digOk (stk hv).len8 (dsv_num (stk hv) v) (dsv_valid (stk hv) v))
theorem lText_le {s : List Int} {l : List VP} (hv : validStack s = true) (hl : l.length ≤ 1000) (hd : ∀ i, i < l.length → -9223372036854775808 ≤ (l.getD i zP).a ∧ (l.getD i zP).a ≤ 9223372036854775807) {k : Nat} (hk : k ≤ l.length) : (lText s l k).length ≤ 46000 := by
  have h1 := joinT_le (f := fun i => logLn s (l.getD i zP)) (B := 46) k fun i hi => by
    have h2 := itoa_le (hd i (by omega))
    have h3 := dsv_le hv (l.getD i zP).b
    simp only [logLn, List.length_append, List.length_cons, List.length_nil]
    omega
  unfold lText
  omega
theorem lText_pos {s : List Int} {l : List VP} {k : Nat} (hk : 0 < k) : lText s l k ≠ [] := by
  have := joinT_pos (f := fun i => logLn s (l.getD i zP)) (fun i => by simp only [logLn, List.length_append, List.length_cons, List.length_nil]; omega) k hk
  intro h
  unfold lText at h
  rw [h] at this
  simp at this
end Go.W

/- Numbers read from their texts. -/
set_option linter.unusedVariables false
set_option linter.unusedSimpArgs false
namespace Go.W
open Go Go.Sx
def isDig (c : UInt8) : Prop := 48 ≤ c.toNat ∧ c.toNat ≤ 57
def numV (t : List UInt8) : Nat := t.foldl (fun a c => 10 * a + (c.toNat - 48)) 0
theorem numV_snoc (t : List UInt8) (c : UInt8) : numV (t ++ [c]) = 10 * numV t + (c.toNat - 48) := by simp [numV, List.foldl_append]
/-- What a text of a number is: digits, at least one, no nought ahead of another digit. -/
def numOk (t : List UInt8) : Prop := t ≠ [] ∧ (∀ c ∈ t, isDig c) ∧ (t.length = 1 ∨ t.getD 0 0 ≠ 48)
theorem numV_one {c : UInt8} : numV [c] = c.toNat - 48 := by simp [numV]
theorem u8_nat {n : Nat} (h : n < 256) : (UInt8.ofNat n).toNat = n := by rw [UInt8.toNat_ofNat']; omega
theorem itoa_ok : ∀ (k : Nat) (n : Int), n.toNat = k → 0 ≤ n → numOk (Lib.itoa n) ∧ (numV (Lib.itoa n) : Int) = n := by
  intro k
  induction k using Nat.strongRecOn with
  | ind k ih =>
    intro n hk h0
    by_cases h1 : n < 10
    · rw [itoa_one h0 h1]
      have e := u8_nat (n := (48 + n % 10).toNat) (by omega)
      refine ⟨⟨by simp, fun c hc => ?_, .inl rfl⟩, ?_⟩
      · rw [List.mem_singleton] at hc
        subst hc
        unfold isDig
        rw [e]; omega
      · rw [numV_one, e]; omega
    · rw [itoa_more h0 h1]
      obtain ⟨i1, i2⟩ := ih (n / 10).toNat (by omega) (n / 10) rfl (by omega)
      have e := u8_nat (n := (48 + n % 10).toNat) (by omega)
      refine ⟨⟨by simp, fun c hc => ?_, .inr ?_⟩, ?_⟩
      · rcases List.mem_append.1 hc with hc | hc
        · exact i1.2.1 c hc
        · rw [List.mem_singleton] at hc
          subst hc
          unfold isDig
          rw [e]; omega
      · rcases i1.2.2 with h2 | h2
        · have h3 := itoa_len_one h2 (by omega)
          rw [h3]
          show (UInt8.ofNat (48 + (n / 10) % 10).toNat) ≠ 48
          intro h4
          have h5 := congrArg UInt8.toNat h4
          rw [u8_nat (by omega)] at h5
          simp at h5
          have h6 : n / 10 < 10 := itoa_len_lt h2 (by omega)
          omega
        · have hne := i1.1
          cases hL : Lib.itoa (n / 10) with
          | nil => exact absurd hL hne
          | cons a r => rw [hL] at h2; simpa using h2
      · rw [numV_snoc, e]; omega
where
  itoa_len_lt {m : Int} (h : (Lib.itoa m).length = 1) (h0 : 0 ≤ m) : m < 10 := by
    rcases Int.lt_or_le m 10 with h1 | h1
    · exact h1
    · rw [itoa_more h0 (by omega), List.length_append] at h
      have := itoa_pos (m / 10)
      simp at h
      rw [h] at this
      simp at this
  itoa_len_one {m : Int} (h : (Lib.itoa m).length = 1) (h0 : 0 ≤ m) : Lib.itoa m = [UInt8.ofNat (48 + m % 10).toNat] := itoa_one h0 (itoa_len_lt h h0)
end Go.W

/- Texts cut at a byte. -/
set_option linter.unusedVariables false
set_option linter.unusedSimpArgs false
namespace Go.W
open Go Go.Sx
/-- The pieces of a text behind a piece that has begun. -/
def splitA (c : UInt8) : List UInt8 → List UInt8 → List (List UInt8)
  | acc, [] => [acc]
  | acc, x :: r => if x = c then acc :: splitA c [] r else splitA c (acc ++ [x]) r
theorem splitA_nil (c : UInt8) (acc : List UInt8) : splitA c acc [] = [acc] := rfl
theorem splitA_y {c x : UInt8} {acc r : List UInt8} (h : x = c) : splitA c acc (x :: r) = acc :: splitA c [] r := if_pos h
theorem splitA_n {c x : UInt8} {acc r : List UInt8} (h : ¬ x = c) : splitA c acc (x :: r) = splitA c (acc ++ [x]) r := if_neg h
theorem splitA_ne (c : UInt8) : ∀ (s acc : List UInt8), splitA c acc s ≠ []
  | [], acc => by simp [splitA]
  | x :: r, acc => by
    unfold splitA
    split
    · simp
    · exact splitA_ne c r _
theorem index_cons (c b : UInt8) (l : List UInt8) : Lib.index (b :: l) [c] = if b = c then 0 else if Lib.index l [c] = -1 then -1 else Lib.index l [c] + 1 := by
  show (if [c].isPrefixOf (b :: l) then (0 : Int) else if Lib.index l [c] == -1 then -1 else Lib.index l [c] + 1) = _
  by_cases h : b = c
  · subst h; simp [List.isPrefixOf]
  · have h' : ¬ c = b := fun e => h e.symm
    simp [List.isPrefixOf, h, h']
theorem splitA_idx (c : UInt8) : ∀ (s acc : List UInt8), (Lib.index s [c] = -1 → splitA c acc s = [acc ++ s]) ∧ ∀ i : Nat, Lib.index s [c] = i → splitA c acc s = (acc ++ s.take i) :: splitA c [] (s.drop (i + 1))
  | [], acc => ⟨fun _ => by simp [splitA], fun i h => by
    have : Lib.index [] [c] = -1 := rfl
    omega⟩
  | x :: r, acc => by
    rw [index_cons]
    by_cases hx : x = c
    · rw [if_pos hx, splitA_y hx]
      refine ⟨fun h => absurd h (by decide), fun i h => ?_⟩
      obtain rfl : i = 0 := by omega
      simp
    · rw [if_neg hx, splitA_n hx]
      obtain ⟨h1, h2⟩ := splitA_idx c r (acc ++ [x])
      by_cases hi : Lib.index r [c] = -1
      · rw [if_pos hi]
        refine ⟨fun _ => by rw [h1 hi]; simp, fun i h => by omega⟩
      · rw [if_neg hi]
        have hg := Lib.index_ge r [c]
        refine ⟨fun h => by omega, fun i h => ?_⟩
        obtain ⟨j, rfl⟩ : ∃ j, i = j + 1 := ⟨i - 1, by omega⟩
        rw [h2 j (by omega)]
        simp
/-- The library's pieces are these. -/
theorem splitK_eq (c : UInt8) : ∀ (k : Nat) (s : List UInt8), Lib.count s [c] = k → Lib.splitK [c] 0 k s = splitA c [] s := by
  intro k
  induction k with
  | zero =>
    intro s h
    rcases Int.lt_or_le (Lib.index s [c]) 0 with h1 | h1
    · have hm : Lib.index s [c] = -1 := by have := Lib.index_ge s [c]; omega
      rw [(splitA_idx c s []).1 hm]; rfl
    · obtain ⟨i, hi⟩ := Int.eq_ofNat_of_zero_le h1
      have := Lib.count_hit (sub := [c]) (by simp) hi
      omega
  | succ k ih =>
    intro s h
    rcases Int.lt_or_le (Lib.index s [c]) 0 with h1 | h1
    · have hm : Lib.index s [c] = -1 := by have := Lib.index_ge s [c]; omega
      rw [Lib.count_miss hm] at h
      omega
    · obtain ⟨i, hi⟩ := Int.eq_ofNat_of_zero_le h1
      have hc := Lib.count_hit (sub := [c]) (by simp) hi
      have hn : ¬ (Lib.index s [c] == -1) = true := fun e => by have := beq_iff_eq.1 e; omega
      rw [(splitA_idx c s []).2 i hi, Lib.splitK, if_neg hn]
      have e : (Lib.index s [c]).toNat = i := by omega
      rw [e]
      simp only [List.length_cons, List.length_nil, Nat.zero_add] at hc ⊢
      rw [ih _ (by omega)]
      simp
theorem split_eq (c : UInt8) (s : List UInt8) : Lib.split s [c] = splitA c [] s := splitK_eq c _ s rfl
theorem join_cons2 (x y : List UInt8) (r : List (List UInt8)) (sep : List UInt8) : Lib.join (x :: y :: r) sep = x ++ sep ++ Lib.join (y :: r) sep := by
  rw [Lib.join_cons, Lib.join_cons]
  simp [Lib.joinTail]
theorem join_split (c : UInt8) : ∀ (s acc : List UInt8), Lib.join (splitA c acc s) [c] = acc ++ s
  | [], acc => by rw [splitA_nil, Lib.join_one, List.append_nil]
  | x :: r, acc => by
    by_cases hx : x = c
    · rw [splitA_y hx]
      have ih := join_split c r []
      cases hs : splitA c [] r with
      | nil => exact absurd hs (splitA_ne c r [])
      | cons y ys =>
        rw [hs] at ih
        rw [join_cons2, ih, hx]
        simp
    · rw [splitA_n hx, join_split c r (acc ++ [x])]
      simp
theorem splitA_piece {c : UInt8} : ∀ (x acc r : List UInt8), c ∉ x → splitA c acc (x ++ c :: r) = (acc ++ x) :: splitA c [] r
  | [], acc, r, _ => by rw [List.nil_append, splitA_y rfl, List.append_nil]
  | a :: x, acc, r, h => by
    rw [List.mem_cons, not_or] at h
    rw [List.cons_append, splitA_n (fun e => h.1 e.symm), splitA_piece x _ r h.2]
    simp
theorem splitA_last {c : UInt8} : ∀ (x acc : List UInt8), c ∉ x → splitA c acc x = [acc ++ x]
  | [], acc, _ => by rw [splitA_nil, List.append_nil]
  | a :: x, acc, h => by
    rw [List.mem_cons, not_or] at h
    rw [splitA_n (fun e => h.1 e.symm), splitA_last x _ h.2]
    simp
/-- What is joined comes apart again. -/
theorem split_join {c : UInt8} : ∀ (xs : List (List UInt8)), xs ≠ [] → (∀ x ∈ xs, c ∉ x) → splitA c [] (Lib.join xs [c]) = xs
  | [], h, _ => absurd rfl h
  | [x], _, h => by rw [Lib.join_one, splitA_last x [] (h x (by simp))]; rfl
  | x :: y :: r, _, h => by
    rw [join_cons2, List.append_assoc]
    show splitA c [] (x ++ c :: ([] ++ Lib.join (y :: r) [c])) = _
    rw [splitA_piece x [] _ (h x (by simp)), List.nil_append, List.nil_append, split_join (y :: r) (by simp) (fun z hz => h z (List.mem_cons_of_mem _ hz))]
end Go.W

/- The library's numbers read back. -/
set_option linter.unusedVariables false
set_option linter.unusedSimpArgs false
namespace Go.W
open Go Go.Sx
def numF (a : Nat) (l : List UInt8) : Nat := l.foldl (fun a c => 10 * a + (c.toNat - 48)) a
theorem numF_ge : ∀ (l : List UInt8) (a : Nat), a ≤ numF a l
  | [], a => Nat.le_refl _
  | c :: r, a => by
    have := numF_ge r (10 * a + (c.toNat - 48))
    show a ≤ numF (10 * a + (c.toNat - 48)) r
    omega
theorem parse_digits : ∀ (l : List UInt8) (a : Nat), (∀ c ∈ l, isDig c) → numF a l ≤ 2 ^ 64 - 1 → Lib.parseUintM (2 ^ 64 - 1) a l = .ok (numF a l)
  | [], a, _, _ => rfl
  | c :: r, a, hd, hn => by
    have hc : isDig c := hd c (by simp)
    have e : numF a (c :: r) = numF (10 * a + (c.toNat - 48)) r := rfl
    rw [e] at hn ⊢
    have hg := numF_ge r (10 * a + (c.toNat - 48))
    unfold isDig at hc
    rw [Lib.parseUintM, if_pos hc, if_neg (by omega), if_neg (by omega), Nat.mul_comm a 10]
    exact parse_digits r _ (fun x hx => hd x (List.mem_cons_of_mem _ hx)) hn
theorem parse_nat {n : Int} (h : 0 ≤ n) (h1 : n ≤ 9223372036854775808) : Lib.parseUintB 64 (Lib.itoa n) = .ok n.toNat := by
  obtain ⟨hk, hv⟩ := itoa_ok _ n rfl h
  unfold Lib.parseUintB
  rw [if_neg hk.1]
  have e : numF 0 (Lib.itoa n) = numV (Lib.itoa n) := rfl
  rw [parse_digits _ 0 hk.2.1 (by rw [e]; omega), e]
  congr 1
  omega
/-- A number's text is read as the number. -/
theorem parse_itoa {n : Int} (h : -9223372036854775808 ≤ n ∧ n ≤ 9223372036854775807) : Lib.parseIntB 64 (Lib.itoa n) = .ok n := by
  by_cases h0 : n < 0
  · rw [itoa_neg h0]
    have hp := parse_nat (n := -n) (by omega) (by omega)
    unfold Lib.parseIntB
    have e1 : (45 : UInt8).toNat = 45 := by decide
    simp only [e1, or_true, if_true, hp]
    rw [if_neg (by simp), if_neg (by simp; omega)]
    congr 1
    omega
  · have hk := (itoa_ok _ n rfl (by omega)).1
    have hp := parse_nat (n := n) (by omega) (by omega)
    cases hL : Lib.itoa n with
    | nil => exact absurd hL hk.1
    | cons c r =>
      have hc : isDig c := hk.2.1 c (by rw [hL]; simp)
      unfold isDig at hc
      rw [hL] at hp
      unfold Lib.parseIntB
      have n43 : ¬ c.toNat = 43 := by omega
      have n45 : ¬ c.toNat = 45 := by omega
      simp only [n43, n45, or_self, if_false, hp]
      rw [if_neg (by omega), if_neg (by simp)]
      congr 1
      omega
/-- strings.Cut at one byte, by the pieces. -/
theorem cut_one {c : UInt8} {s p : List UInt8} (h : splitA c [] s = [p]) : (Lib.cut s [c]).1 = p ∧ (Lib.cut s [c]).2.1 = [] := by
  unfold Lib.cut
  rcases Int.lt_or_le (Lib.index s [c]) 0 with h1 | h1
  · have hm : Lib.index s [c] = -1 := by have := Lib.index_ge s [c]; omega
    rw [(splitA_idx c s []).1 hm] at h
    rw [if_neg (by omega)]
    simp at h
    exact ⟨h, rfl⟩
  · obtain ⟨i, hi⟩ := Int.eq_ofNat_of_zero_le h1
    rw [(splitA_idx c s []).2 i hi] at h
    simp only [List.cons.injEq] at h
    exact absurd h.2 (splitA_ne c _ _)
theorem cut_more {c : UInt8} {s p q : List UInt8} {r : List (List UInt8)} (h : splitA c [] s = p :: q :: r) : (Lib.cut s [c]).1 = p ∧ (Lib.cut s [c]).2.1 = Lib.join (q :: r) [c] := by
  unfold Lib.cut
  rcases Int.lt_or_le (Lib.index s [c]) 0 with h1 | h1
  · have hm : Lib.index s [c] = -1 := by have := Lib.index_ge s [c]; omega
    rw [(splitA_idx c s []).1 hm] at h
    simp at h
  · obtain ⟨i, hi⟩ := Int.eq_ofNat_of_zero_le h1
    rw [(splitA_idx c s []).2 i hi] at h
    simp only [List.cons.injEq] at h
    rw [if_pos h1]
    have e : (Lib.index s [c]).toNat = i := by omega
    rw [e]
    refine ⟨by have := h.1; simpa using this, ?_⟩
    have hj := join_split c (s.drop (i + 1)) []
    rw [h.2] at hj
    rw [hj]
    simp
end Go.W

/- The text of totals, read. -/
set_option linter.unusedVariables false
set_option linter.unusedSimpArgs false
namespace Go.W
open Go Go.Sx
theorem dig_no {t : List UInt8} {c : UInt8} (h : ∀ x ∈ t, isDig x) (hc : c.toNat < 48) : c ∉ t := fun hm => by
  have := (h c hm).1
  omega
theorem itoa_no {n : Int} {c : UInt8} (h : 0 ≤ n) (hc : c.toNat < 48) : c ∉ Lib.itoa n := dig_no (itoa_ok _ n rfl h).1.2.1 hc
end Go.W
namespace Go.W
open Go Go.Sx
instance isDigDec (c : UInt8) : Decidable (isDig c) := by unfold isDig; infer_instance
instance numOkDec (t : List UInt8) : Decidable (numOk t) := by unfold numOk; infer_instance
/-- A number of at most B digits, as the specification reads it. -/
def numR (B : Nat) (t : List UInt8) : Int × Bool := if numOk t ∧ t.length ≤ B then ((numV t : Int), true) else (0, false)
/-- A line of totals. -/
def lineS (l : List UInt8) : Option VP := match splitA 32 [] l with
  | [a, b] => if (numR 13 a).2 = true ∧ (numR 13 b).2 = true then some ⟨(numR 13 a).1, (numR 13 b).1⟩ else none
  | _ => none
end Go.W

/- Digits read from their texts: digits are read iff the text is theirs. -/
set_option linter.unusedVariables false
set_option linter.unusedSimpArgs false
namespace Go.W
open Go Go.Sx
theorem parse_digitsM {M : Nat} (hM : M ≤ 2 ^ 64 - 1) : ∀ (l : List UInt8) (a : Nat), (∀ c ∈ l, isDig c) → numF a l ≤ M → Lib.parseUintM M a l = .ok (numF a l)
  | [], a, _, _ => rfl
  | c :: r, a, hd, hn => by
    have hc : isDig c := hd c (by simp)
    have e : numF a (c :: r) = numF (10 * a + (c.toNat - 48)) r := rfl
    rw [e] at hn ⊢
    have hg := numF_ge r (10 * a + (c.toNat - 48))
    unfold isDig at hc
    rw [Lib.parseUintM, if_pos hc, if_neg (by omega), if_neg (by omega), Nat.mul_comm a 10]
    exact parse_digitsM hM r _ (fun x hx => hd x (List.mem_cons_of_mem _ hx)) hn
/-- What a digit's text is. -/
theorem dgT_dig {b d : Int} (h : 0 ≤ d) : ∀ c ∈ dgT b d, isDig c := fun c hc => by
  have hk := (itoa_ok _ d rfl h).1.2.1
  unfold dgT at hc
  split at hc
  · rw [List.mem_cons] at hc
    rcases hc with rfl | hc
    · exact ⟨by decide, by decide⟩
    · exact hk c hc
  · exact hk c hc
theorem dgT_val {b d : Int} (h : 0 ≤ d) : (numV (dgT b d) : Int) = d := by
  have hv := (itoa_ok _ d rfl h).2
  unfold dgT
  split
  · show ((numV (48 :: Lib.itoa d) : Nat) : Int) = d
    have e : numV (48 :: Lib.itoa d) = numV (Lib.itoa d) := rfl
    rw [e]; exact hv
  · exact hv
theorem dgT_ne {b d : Int} : dgT b d ≠ [] := fun e => by
  have := dgT_pos b d
  rw [e] at this
  simp at this
theorem dgT_inj {b d e : Int} (h : 0 ≤ d) (h1 : 0 ≤ e) (h2 : dgT b d = dgT b e) : d = e := by
  have a := dgT_val (b := b) h
  have c := dgT_val (b := b) h1
  rw [h2, c] at a
  exact a.symm
/-- A text that ParseUint reads as a number of seven bits. -/
def U7 (t : List UInt8) (u : Int) : Prop := 0 ≤ u ∧ u ≤ 127 ∧ Lib.parseUintB 7 t = .ok u.toNat
theorem dgT_U7 {b d : Int} (h : 0 ≤ d) (h1 : d ≤ 127) : U7 (dgT b d) d := by
  refine ⟨h, h1, ?_⟩
  have hv := dgT_val (b := b) h
  unfold Lib.parseUintB
  rw [if_neg dgT_ne]
  have e : numF 0 (dgT b d) = numV (dgT b d) := rfl
  rw [parse_digitsM (by decide) _ 0 (dgT_dig h) (by rw [e]; omega), e]
  congr 1
  omega
theorem U7_one {t : List UInt8} {u v : Int} (h : U7 t u) (h1 : U7 t v) : u = v := by
  obtain ⟨a, b, c⟩ := h
  obtain ⟨d, e, f⟩ := h1
  rw [c] at f
  injection f with f
  omega
/-- No digits have this text. -/
def NoDig (s : List Int) (t : List UInt8) : Prop := ∀ d : Dig, Nums 255 d.l → validDig s d.l = true → digT s d.l ≠ t
theorem dg_no {b d : Int} {c : UInt8} (h : 0 ≤ d) (hc : c.toNat < 48 ∨ 57 < c.toNat) : c ∉ dgT b d := fun hm => by
  have := dgT_dig h c hm
  unfold isDig at this
  omega
theorem dig_parts {s : List Int} {d : List Int} (hs : Stk s) (hd : DigOk s d) : splitA 58 [] (digT s d) = partsF (dpart s d) s.length := by
  unfold digT
  refine split_join _ (by intro e; have h1 := congrArg List.length e; rw [partsF_len] at h1; have h2 := hs.len1; rw [List.length_nil] at h1; omega) fun x hx => ?_
  obtain ⟨i, hi, rfl⟩ := List.mem_map.1 hx
  have hi := List.mem_range.1 hi
  have h2 := hd (s.length - 1 - i) (by omega)
  exact dg_no h2.1 (.inr (by decide))
theorem parts_getD (f : Nat → List UInt8) {k i : Nat} (h : i < k) : (partsF f k).getD i [] = f i := by
  simp [partsF, List.getD, h]
/-- The word that a digit has. -/
theorem dig_word {s : List Int} {t : List UInt8} {d : Dig} (hs : Stk s) (hn : Nums 255 d.l) (hv : validDig s d.l = true) (ht : digT s d.l = t) {j : Nat} (hj : j < s.length) : (splitA 58 [] t).getD (s.length - 1 - j) [] = dgT (s.getD j 0) (d.l.getD j 0) ∧ 0 ≤ d.l.getD j 0 ∧ d.l.getD j 0 < s.getD j 0 ∧ s.getD j 0 ≤ 100 := by
  have hd := digOk hs.len8 hn hv
  rw [← ht, dig_parts hs hd, parts_getD _ (by omega)]
  have h2 := hd j hj
  have h3 := hs.bases j hj
  refine ⟨?_, h2.1, h2.2, h3.2⟩
  unfold dpart
  rw [show s.length - 1 - (s.length - 1 - j) = j by omega]
theorem ndg_len {s : List Int} {t : List UInt8} (hs : Stk s) (h : (splitA 58 [] t).length ≠ s.length) : NoDig s t := fun d hn hv ht => by
  rw [← ht, dig_parts hs (digOk hs.len8 hn hv), partsF_len] at h
  exact h rfl
theorem ndg_err {s : List Int} {t : List UInt8} {j : Nat} (hs : Stk s) (hj : j < s.length) (h : ∀ u, ¬ U7 ((splitA 58 [] t).getD (s.length - 1 - j) []) u) : NoDig s t := fun d hn hv ht => by
  obtain ⟨h1, h2, h3, h4⟩ := dig_word hs hn hv ht hj
  rw [h1] at h
  exact h _ (dgT_U7 h2 (by omega))
theorem key9 {d e : Dig} {j : Nat} (h1 : d.l.getD j 0 = e.l.getD j 0) (h3 : j < d.l.length) (h4 : j < e.l.length) : d.l[j] = e.l[j] := by
  unfold List.getD at h1
  rw [List.getElem?_eq_getElem h3, List.getElem?_eq_getElem h4] at h1
  exact h1
theorem dig_one {s : List Int} {d e : Dig} (hs : Stk s) (hd : Nums 255 d.l) (he : Nums 255 e.l) (h1 : validDig s d.l = true) (h2 : validDig s e.l = true) (h : digT s d.l = digT s e.l) : d = e := by
  apply dig_inj
  apply List.ext_getElem ((dig_len _).trans (dig_len _).symm)
  intro j h30 h4
  have h3 : j < 8 := h30
  have key : d.l.getD j 0 = e.l.getD j 0 := by
    by_cases hj : j < s.length
    · obtain ⟨a1, a2, _⟩ := dig_word hs hd h1 h hj
      obtain ⟨b1, b2, _⟩ := dig_word hs he h2 rfl hj
      exact dgT_inj a2 b2 (a1.symm.trans b1)
    · have f : ∀ {x : Dig}, validDig s x.l = true → x.l.getD j 0 = 0 := fun {x} hx => by
        unfold validDig at hx
        rw [List.all_eq_true] at hx
        have := hx j (List.mem_range.2 h3)
        unfold goodAt at this
        rwa [if_neg hj, decide_eq_true_iff] at this
      rw [f h1, f h2]
  exact key9 key h30 h4
/-- The parts of the places from the top down are numbers of seven bits: the digits that the program lays. -/
def DigU (s : List Int) (t : List UInt8) (d : List Int) (k : Nat) : Prop := ∀ j, j < 8 → (s.length - k ≤ j → j < s.length → U7 ((splitA 58 [] t).getD (s.length - 1 - j) []) (d.getD j 0)) ∧ ((j < s.length - k ∨ s.length ≤ j) → d.getD j 0 = 0)
theorem digU_0 (s : List Int) (t : List UInt8) : DigU s t [0, 0, 0, 0, 0, 0, 0, 0] 0 := fun j hj => ⟨fun h => by omega, fun _ => by
  rcases j with _ | _ | _ | _ | _ | _ | _ | _ | j <;> first | rfl | omega⟩
theorem digU_s {s : List Int} {t : List UInt8} {d : List Int} {k q : Nat} {n : Int} (hl : d.length = 8) (hs : s.length ≤ 8) (hk : k < s.length) (hq : q = s.length - 1 - k) (h : DigU s t d k) (h0 : U7 ((splitA 58 [] t).getD k []) n) : DigU s t (d.set q n) (k + 1) := fun j hj => by
  subst hq
  by_cases e : j = s.length - 1 - k
  · subst e
    have e1 : (d.set (s.length - 1 - k) n).getD (s.length - 1 - k) 0 = n := by simp [List.getD, hl, hj]
    rw [e1]
    exact ⟨fun _ _ => by rw [show s.length - 1 - (s.length - 1 - k) = k by omega]; exact h0, fun h => by omega⟩
  · have e1 : (d.set (s.length - 1 - k) n).getD j 0 = d.getD j 0 := by simp [List.getD, List.getElem?_set, Ne.symm e]
    rw [e1]
    exact ⟨fun a b => (h j hj).1 (by omega) b, fun a => (h j hj).2 (by omega)⟩
/-- The program's digits do not have the text: none do. -/
theorem ndg_end {s : List Int} {t : List UInt8} {d : Dig} (hv : validStack s = true) (hd : DigU s t d.l s.length) (h : digTx s d.l ≠ t) : NoDig s t := fun e hn hve ht => by
  have hs := stk hv
  have he : d = e := by
    apply dig_inj
    apply List.ext_getElem ((dig_len _).trans (dig_len _).symm)
    intro j h30 h4
    have h3 : j < 8 := h30
    have key : d.l.getD j 0 = e.l.getD j 0 := by
      by_cases hj : j < s.length
      · obtain ⟨a1, a2, a3, a4⟩ := dig_word hs hn hve ht hj
        have := (hd j h3).1 (by omega) hj
        rw [a1] at this
        exact U7_one this (dgT_U7 a2 (by omega))
      · have := (hd j h3).2 (.inr (by omega))
        rw [this]
        unfold validDig at hve
        rw [List.all_eq_true] at hve
        have := hve j (List.mem_range.2 h3)
        unfold goodAt at this
        rw [if_neg hj, decide_eq_true_iff] at this
        exact this.symm
    exact key9 key h30 h4
  subst he
  exact h (by rw [digTx_t (by rw [hv, hve]; rfl)]; exact ht)
def dig0 : Dig := ⟨0, 0, 0, 0, 0, 0, 0, 0⟩
/-- What is read of a text: the digits, and 0; or none, and 5. -/
def DigRd (s : List Int) (t : List UInt8) (x : Dig × Int) : Prop := Nums 255 x.1.l ∧ ((x.2 = 0 ∧ validDig s x.1.l = true ∧ digT s x.1.l = t) ∨ (x.2 = 5 ∧ x.1 = dig0 ∧ NoDig s t))
theorem digRd_one {s : List Int} {t : List UInt8} {x y : Dig × Int} (hs : Stk s) (hx : DigRd s t x) (hy : DigRd s t y) : x = y := by
  obtain ⟨nx, hx⟩ := hx
  obtain ⟨ny, hy⟩ := hy
  rcases hx with ⟨a1, a2, a3⟩ | ⟨a1, a2, a3⟩
  · rcases hy with ⟨b1, b2, b3⟩ | ⟨b1, b2, b3⟩
    · exact Prod.ext (dig_one hs nx ny a2 b2 (a3.trans b3.symm)) (a1.trans b1.symm)
    · exact absurd a3 (b3 x.1 nx a2)
  · rcases hy with ⟨b1, b2, b3⟩ | ⟨b1, b2, b3⟩
    · exact absurd b3 (a3 y.1 ny b2)
    · exact Prod.ext (a2.trans b2.symm) (a1.trans b1.symm)
end Go.W

/- The text of totals, as the program reads it. -/
set_option linter.unusedVariables false
set_option linter.unusedSimpArgs false
namespace Go.W
open Go Go.Sx
theorem itoa_inj {a b : Int} (ha : -9223372036854775808 ≤ a ∧ a ≤ 9223372036854775807) (hb : -9223372036854775808 ≤ b ∧ b ≤ 9223372036854775807) (h : Lib.itoa a = Lib.itoa b) : a = b := by
  have h1 := parse_itoa ha
  have h2 := parse_itoa hb
  rw [h, h2] at h1
  injection h1 with h1
  exact h1.symm
def I64' (n : Int) : Prop := -9223372036854775808 ≤ n ∧ n ≤ 9223372036854775807
/-- A list of numbers that stand in the lines of a text. -/
def CutsOf (t : List UInt8) (l : List VP) : Prop := ∀ i, i < l.length → (I64' (l.getD i zP).a ∧ I64' (l.getD i zP).b) ∧ (Lib.cut ((splitA 10 [] t).getD i []) [32]).1 = Lib.itoa (l.getD i zP).a ∧ (Lib.cut ((splitA 10 [] t).getD i []) [32]).2.1 = Lib.itoa (l.getD i zP).b
theorem CutsOf.snoc {t : List UInt8} {l : List VP} {x : VP} (h : CutsOf t l) (hx : I64' x.a ∧ I64' x.b) (h1 : (Lib.cut ((splitA 10 [] t).getD l.length []) [32]).1 = Lib.itoa x.a) (h2 : (Lib.cut ((splitA 10 [] t).getD l.length []) [32]).2.1 = Lib.itoa x.b) : CutsOf t (l ++ [x]) := fun i hi => by
  rw [List.length_append, List.length_singleton] at hi
  by_cases he : i < l.length
  · have := h i he
    simpa [List.getD, List.getElem?_append, he] using this
  · obtain rfl : i = l.length := by omega
    have e : (l ++ [x]).getD l.length zP = x := by simp [List.getD, List.getElem?_append]
    rw [e]
    exact ⟨hx, h1, h2⟩
end Go.W

/- What the loops of the readers carry on: pieces of a text, numbers, lines. -/
set_option linter.unusedVariables false
set_option linter.unusedSimpArgs false
namespace Go.W
open Go Go.Sx
theorem splitA_len (c : UInt8) : ∀ (t acc : List UInt8), (splitA c acc t).length ≤ t.length + 1
  | [], acc => by simp [splitA]
  | x :: r, acc => by
    unfold splitA
    split
    · have := splitA_len c r []
      simp only [List.length_cons]; omega
    · have := splitA_len c r (acc ++ [x])
      simp only [List.length_cons]; omega
theorem splitA_pos (c : UInt8) (t : List UInt8) : 1 ≤ (splitA c [] t).length := by
  cases h : splitA c [] t with
  | nil => exact absurd h (splitA_ne c t [])
  | cons a r => simp
theorem piece_mem (c : UInt8) : ∀ (t acc p : List UInt8), p ∈ splitA c acc t → p.length ≤ acc.length + t.length
  | [], acc, p, h => by rw [splitA_nil, List.mem_singleton] at h; subst h; simp
  | x :: r, acc, p, h => by
    unfold splitA at h
    split at h
    · rw [List.mem_cons] at h
      rcases h with rfl | h
      · omega
      · have := piece_mem c r [] p h
        simp only [List.length_nil, List.length_cons] at *; omega
    · have := piece_mem c r _ p h
      simp only [List.length_append, List.length_cons, List.length_nil] at *; omega
theorem getD_memT {s : List (List UInt8)} {i : Nat} (h : i < s.length) : s.getD i [] ∈ s := by
  rw [List.getD, List.getElem?_eq_getElem h]
  exact List.getElem_mem h
/-- A piece is no longer than the text. -/
theorem piece_le (c : UInt8) (t : List UInt8) (i : Nat) : ((splitA c [] t).getD i []).length ≤ t.length := by
  by_cases h : i < (splitA c [] t).length
  · have := piece_mem c t [] _ (getD_memT (s := splitA c [] t) h)
    simp only [List.length_nil] at this
    omega
  · simp [List.getD, List.getElem?_eq_none (by omega : (splitA c [] t).length ≤ i)]
theorem cut_le (s : List UInt8) (c : UInt8) : (Lib.cut s [c]).1.length ≤ s.length ∧ (Lib.cut s [c]).2.1.length ≤ s.length := by
  unfold Lib.cut
  split
  · simp only [List.length_take, List.length_drop]; omega
  · simp
/-! ### A number, byte by byte -/
/-! ### What is read -/
/-- A list that is read, a code, the row's room. -/
structure RdS (α : Type) where
  l : List α
  code : Int
  A : Option Addr
  cap : Nat
/-- The rounds of a reader of lines: the list so far, whether all is well. -/
structure TtS (α : Type) where
  k : Nat
  l : List α
  ok : Bool
  A : Option Addr
  cap : Nat
def LinesTo (t : List UInt8) (l : List VP) (k : Nat) : Prop := l.length = k ∧ ∀ j, j < k → lineS ((splitA 10 [] t).getD j []) = some (l.getD j zP)
theorem LinesTo.nil (t : List UInt8) : LinesTo t [] 0 := ⟨rfl, fun j hj => by omega⟩
theorem LinesTo.snoc {t : List UInt8} {l : List VP} {k : Nat} {x : VP} (h : LinesTo t l k) (hx : lineS ((splitA 10 [] t).getD k []) = some x) : LinesTo t (l ++ [x]) (k + 1) := by
  obtain ⟨rfl, h⟩ := h
  refine ⟨by simp, fun j hj => ?_⟩
  by_cases he : j < l.length
  · have := h j he
    simpa [List.getD, List.getElem?_append, he] using this
  · obtain rfl : j = l.length := by omega
    have e : (l ++ [x]).getD l.length zP = x := by simp [List.getD, List.getElem?_append]
    rw [e]; exact hx
end Go.W
namespace Go.W
open Go Go.Sx
/-! ### Numbers, as the program reads them -/
/-- What ParseInt makes of a text. -/
def PInt (t : List UInt8) (n : Int) (b : Bool) : Prop := I64' n ∧ (b = true → Lib.parseIntB 64 t = .ok n) ∧ (∀ z, Lib.parseIntB 64 t = .ok z → b = true ∧ n = z) ∧ (t = [] → n = 0)
/-- A number that is read iff the text is its own. -/
def RDec (t : List UInt8) (x : Int × Bool) : Prop := I64' x.1 ∧ (x.2 = true → t = Lib.itoa x.1) ∧ (∀ z, I64' z → t = Lib.itoa z → x.2 = true ∧ x.1 = z) ∧ (t = [] → x.1 = 0)
theorem rdec_t {t : List UInt8} {n : Int} {b : Bool} (h : PInt t n b) (hb : b = true) : RDec t (n, decide (Lib.itoa n = t)) := by
  obtain ⟨h1, h2, h3, h4⟩ := h
  refine ⟨h1, fun h => (of_decide_eq_true h).symm, fun z hz e => ?_, h4⟩
  subst e
  obtain ⟨_, e2⟩ := h3 z (parse_itoa hz)
  exact ⟨decide_eq_true (by rw [e2]), e2⟩
theorem rdec_f {t : List UInt8} {n : Int} {b : Bool} (h : PInt t n b) (hb : b = false) : RDec t (n, false) := by
  obtain ⟨h1, h2, h3, h4⟩ := h
  refine ⟨h1, ?_, fun z hz e => ?_, h4⟩
  · intro h; exact absurd h (by simp)
  subst e
  have := (h3 z (parse_itoa hz)).1
  rw [hb] at this
  cases this
theorem parse_bd {t : List UInt8} {v : Int} (h : Lib.parseIntB 64 t = .ok v) : I64' v := by
  unfold I64'
  cases t with
  | nil => cases h
  | cons c r =>
    unfold Lib.parseIntB at h
    simp only at h
    split at h
    · cases h
    · cases h
    · rename_i u hu
      split at h
      · cases h
      · rename_i h1
        split at h
        · cases h
        · rename_i h2
          injection h with h
          subst h
          by_cases h3 : c.toNat = 45
          · simp [h3] at h1 h2 ⊢; omega
          · simp [h3] at h1 h2 ⊢; omega
theorem sat_bd (t : List UInt8) : I64' (Lib.intSat 64 t) := by
  unfold Lib.intSat I64'
  split <;> simp
theorem pint_ok {t : List UInt8} {v : Int} (h : Lib.parseIntB 64 t = .ok v) : PInt t v true := ⟨parse_bd h, fun _ => h, fun z hz => ⟨rfl, by rw [h] at hz; injection hz⟩, fun e => by subst e; cases h⟩
theorem pint_syn {t : List UInt8} (h : ∀ z, Lib.parseIntB 64 t ≠ .ok z) : PInt t 0 false := by
  refine ⟨⟨by decide, by decide⟩, ?_, fun z hz => ?_, fun _ => rfl⟩
  · intro e; exact absurd e (by simp)
  · exact absurd hz (h z)
theorem pint_rng {t : List UInt8} (h : Lib.parseIntB 64 t = .range) : PInt t (Lib.intSat 64 t) false := by
  refine ⟨sat_bd t, ?_, fun z hz => ?_, fun e => by subst e; cases h⟩
  · intro e; exact absurd e (by simp)
  · rw [h] at hz; cases hz
end Go.W

/- A byte of a string; pieces of a string. -/
set_option linter.unusedVariables false
set_option linter.unusedSimpArgs false
namespace Go.Sx
open Go Go.RowKit
variable {C : Cx} {env env' : Env} {m m' : List Ent} {o : Oper} {K : Env → List Ent → Prop}
end Go.Sx

/- The library's variables that a reader of texts meets; errors compared with nil; the library's Split, Cut and ParseInt, as our contracts say them; what is laid and the shape, both handed on. -/
set_option linter.unusedVariables false
set_option linter.unusedSimpArgs false
namespace Go.Sx
open Go Go.RowKit
variable {C : Cx} {env env' : Env} {m m' : List Ent} {o : Oper} {K : Env → List Ent → Prop}
/-- The three variables of the library that a reader of texts meets. -/
structure RdO (gm gs gr : Nat) (w : World) : Prop where
  max : ∃ m, w.cell? ⟨gm, 0, none⟩ = some (.int .i64 m)
  syn : ∃ v, w.cell? ⟨gs, 0, none⟩ = some v ∧ (v = .nilIface ∨ ∃ te pe, v = .iface te pe)
  rng : ∃ v, w.cell? ⟨gr, 0, none⟩ = some v ∧ (v = .nilIface ∨ ∃ te pe, v = .iface te pe)
theorem cell_below {w w' : World} {g : Nat} {v : Value} (hb : Below w.heap.size w w') (h : w.cell? ⟨g, 0, none⟩ = some v) : w'.cell? ⟨g, 0, none⟩ = some v :=
  (hb.cell (p := ⟨g, 0, none⟩) (World.block_lt_of_cell? _ _ h)).trans h
theorem RdO.below {a b c w w'} (h : RdO a b c w) (hb : Below w.heap.size w w') : RdO a b c w' :=
  ⟨h.max.imp fun _ h => cell_below hb h, h.syn.imp fun _ h => ⟨cell_below hb h.1, h.2⟩, h.rng.imp fun _ h => ⟨cell_below hb h.1, h.2⟩⟩
theorem RdO.keep {a b c w0 m w} (h : RdO a b c w0) (hh : Holds w0.heap.size w0 m w) : RdO a b c w := h.below hh.below
/-- An error: nil, or something. -/
def errV (b : Bool) (t : TypeId) (v : Value) : Value := if b then .nilIface else .iface t v
theorem errV_eq (b : Bool) (t : TypeId) (v : Value) {T : TypeId} {P : Program} {w : World} (h : P.isIface T = true) : (Op.equal T (errV b t v) .nilIface).run P w = .ok b w := by
  cases b
  · exact run_equalIn_iface_nil w 9999 T h t v
  · exact run_equalIn_nil_nil_at w 9999 T h
theorem fr_eql_err {T x c T' b t v ms} (ho : o.op = .binOp .eql T x (.const c) T') (hx : ev env x = some (errV b t v)) (hy : ev env (.const c) = some .nilIface) (hT : C.P.underlying T = some (.interface ms)) : Free C o env m (.bool b) := by
  intro a w hr _
  have hi : C.P.isIface T = true := by simp [Program.isIface, hT]
  have h : (binOp .eql T (errV b t v) .nilIface).run C.P w = .ok (.bool b) w := by
    have e : binOp .eql T (errV b t v) .nilIface = (do pure (.bool (← Op.equal T (errV b t v) .nilIface))) := by cases b <;> rfl
    rw [e]
    simp only [Sem.run_bind, errV_eq b t v hi, Result.andThen_ok, Sem.run_pure]
  have hg : (eqGuard .eql T x (.const c) (errV b t v) .nilIface).run C.P w = .ok () w := by
    cases b
    · show (eqGuard .eql T x (.const c) (.iface t v) .nilIface).run C.P w = _
      rw [eqGuard_at_iface]; rfl
    · show (eqGuard .eql T x (.const c) .nilIface .nilIface).run C.P w = _
      rw [eqGuard_nil_constR]; rfl
  simp only [execOp, ho, hr.ev hx, hr.ev hy, Sem.run_bind, hg, Result.andThen_ok, h]; rfl
theorem fr_neq_err {T x c T' b t v ms} (ho : o.op = .binOp .neq T x (.const c) T') (hx : ev env x = some (errV b t v)) (hy : ev env (.const c) = some .nilIface) (hT : C.P.underlying T = some (.interface ms)) : Free C o env m (.bool (!b)) := by
  intro a w hr _
  have hi : C.P.isIface T = true := by simp [Program.isIface, hT]
  have h : (binOp .neq T (errV b t v) .nilIface).run C.P w = .ok (.bool (!b)) w := by
    have e : binOp .neq T (errV b t v) .nilIface = (do pure (.bool (!(← Op.equal T (errV b t v) .nilIface)))) := by cases b <;> rfl
    rw [e]
    simp only [Sem.run_bind, errV_eq b t v hi, Result.andThen_ok, Sem.run_pure]
  have hg : (eqGuard .neq T x (.const c) (errV b t v) .nilIface).run C.P w = .ok () w := by
    cases b
    · show (eqGuard .neq T x (.const c) (.iface t v) .nilIface).run C.P w = _
      rw [eqGuard_at_iface]; rfl
    · show (eqGuard .neq T x (.const c) .nilIface .nilIface).run C.P w = _
      rw [eqGuard_nil_constR]; rfl
  simp only [execOp, ho, hr.ev hx, hr.ev hy, Sem.run_bind, hg, Result.andThen_ok, h]; rfl
/-- The pieces that the library's Split lays are a row of ours. -/
theorem splitB_pieces (c : UInt8) (t : List UInt8) : (Lib.splitB (mkB [c]) 0 (Lib.countB (mkB t) (mkB [c])) (mkB t)).map (·.data.toList) = W.splitA c [] t := by
  rw [Lib.splitB_data]
  exact W.split_eq c t
theorem split_row {w : World} {T : TypeId} (c : UInt8) (t : List UInt8) (hl : t.length ≤ 281474976710656) :
    (Value.slice (some ⟨w.heap.size, 0, none⟩) (Lib.countB (mkB t) (mkB [c]) + 1) (Lib.countB (mkB t) (mkB [c]) + 1) = Value.slice (some ⟨w.heap.size, 0, none⟩) (W.splitA c [] t).length (W.splitA c [] t).length) ∧
    Ent.holds w.heap.size (w.alloc (.cells ((Lib.splitB (mkB [c]) 0 (Lib.countB (mkB t) (mkB [c])) (mkB t)).map Value.string).toArray T)) (.row (.slice (some ⟨w.heap.size, 0, none⟩) (W.splitA c [] t).length (W.splitA c [] t).length) T 1 (W.splitA c [] t).length ((W.splitA c [] t).flatMap eSt)) := by
  have hp := splitB_pieces c t
  have hlen : Lib.countB (mkB t) (mkB [c]) + 1 = (W.splitA c [] t).length := by
    rw [← hp, List.length_map, Lib.splitB_all (mkB [c]) (by show 1 ≤ 1; decide) 0 _ (mkB t) rfl]
  have hlt := Lib.countB_le (mkB [c]) (by show 1 ≤ 1; decide) (mkB t).size (mkB t) (Nat.le_refl _)
  have hsz : (mkB t).size = t.length := by simp [mkB, ByteArray.size]
  have hcells : (Lib.splitB (mkB [c]) 0 (Lib.countB (mkB t) (mkB [c])) (mkB t)).map Value.string = (W.splitA c [] t).flatMap eSt := by
    rw [← hp]
    generalize Lib.splitB (mkB [c]) 0 (Lib.countB (mkB t) (mkB [c])) (mkB t) = bs
    induction bs with
    | nil => rfl
    | cons b r ih => rw [List.map_cons, ih]; rfl
  refine ⟨by rw [hlen], ?_, .inr ⟨w.heap.size, _, ((Lib.splitB (mkB [c]) 0 (Lib.countB (mkB t) (mkB [c])) (mkB t)).map Value.string).toArray, rfl, Nat.le_refl _, ?_, Nat.le_refl _, ?_, ?_, ?_⟩⟩
  · rw [flat_len eSt_len, Nat.mul_one]
  · show (w.heap.push _)[w.heap.size]? = _
    simp
  · rw [← hlen]; unfold maxLen; omega
  · rw [List.size_toArray, hcells, flat_len eSt_len]
  · rw [hcells, Nat.mul_one]
    exact List.take_of_length_le (by rw [List.toList_toArray, flat_len eSt_len]; omega)
theorem below_alloc (w : World) (o : Obj) : Below w.heap.size w (w.alloc o) := ⟨rfl, rfl, rfl, by show w.heap.size ≤ (w.heap.push o).size; rw [Array.size_push]; omega, fun j hj => by
  show (w.heap.push o)[j]? = _
  rw [Array.getElem?_push, if_neg (by omega)]⟩
theorem below_drew (w : World) (k : Nat) : Below w.heap.size w (w.drewN k) := ⟨rfl, rfl, rfl, Nat.le_refl _, fun _ _ => rfl⟩
end Go.Sx
namespace Go
variable {H : Type} {enc : TypeId × Value → H}
/-- What is laid and the world's shape, both handed on. -/
theorem handed_and_shaped {a : Assume} {C : Checked} {os : Os} {f : FuncId} {fn : Func} {s : ChangeSpec} {conds : List PathCond} {apart fresh handsOn again : Bool} {X : World → Array Value → Prop}
    (hX : ∀ (w w' : World) (args : Array Value), w.heap = w'.heap → X w args → X w' args)
    (own : ownKnob C.prog.godebug = none) (started : os.Started) (noInit : C.prog.inits.idxOf? f = none) (hfn : C.prog.funcs[f]? = some fn)
    (witness : ∃ (w : World) (tape : Tape) (i : Input), w.os = os ∧ (w.forCall tape i).Shaped C.prog ∧ i.vars = [] ∧ Input.okWide C.prog (w.forCall tape i) .any w.heap.size f i ∧
      ((s.pre enc C.prog fn conds apart (w.forCall tape i).memory i.args ∧ X (w.forCall tape i).memory i.args) ∧ sizedMet enc C.prog fn (OpenSpec.ofChange s) apart (w.forCall tape i).memory i.args) ∧ a.holds C.prog (lone (Frame.enter C.prog f i.args .normal) [] (w.forCall tape i)))
    (contract : ∀ (W : World) (base : Nat) (args : Array Value) (ds gs : List (DataW H)) (before : List MemPlace),
      (∀ (j : Nat) t v, fn.params[j]? = some t → args[j]? = some v → Value.okWide C.prog W .any base t v) →
      DataW.Whole enc C.prog fn.params.toList s.vars apart W args.toList ds gs before →
      conds.all (PathCond.test C.prog ⟨fn.params.toList, ds, s.plain.varTypes C.prog, gs⟩) = true →
      (DataW.weightsEach C.prog (fn.params.toList ++ s.plain.varTypes C.prog) (ds ++ gs)).all (· ≤ reachBytes) = true → X W args → W.ShapedOpen C.prog →
      a.holds C.prog (lone (Frame.enter C.prog f args .normal) [] W) →
      Calls C.prog f args W fun e W' => ∃ v, e = .returned v ∧ s.post enc C.prog fn apart fresh handsOn again W args v W') :
    ReturnsInHanded a C os f .any (fun w args => (s.pre enc C.prog fn conds apart w args ∧ X w args) ∧ sizedMet enc C.prog fn (OpenSpec.ofChange s) apart w args) (s.post enc C.prog fn apart fresh handsOn again) := by
  refine returnsInHanded_of_calls own started noInit witness ?_
  intro w tape i _ hsh _ hok hpre hholds
  obtain ⟨_, _, _, fn', hfn', _, _, _, _, hval⟩ := hok
  have e : fn' = fn := Option.some.inj (hfn'.symm.trans hfn)
  subst e
  obtain ⟨⟨⟨ds, gs, before, hw, hc⟩, hx⟩, hz⟩ := hpre
  have hw' := DataW.Whole.of_heap (w' := w.forCall tape i) (by rfl) hw
  refine (contract (w.forCall tape i) w.heap.size i.args ds gs before hval hw' hc (hz.weights hw) (hX _ _ _ (by rfl) hx) hsh hholds).mono fun e W' ⟨v, he, hp⟩ => ?_
  subst he
  exact ChangeSpec.post_blind hp
end Go

/- What the readers of digits carry on. -/
set_option linter.unusedVariables false
set_option linter.unusedSimpArgs false
namespace Go.Sx
open Go Go.RowKit
variable {C : Cx} {env env' : Env} {m m' : List Ent} {o : Oper} {K : Env → List Ent → Prop}
theorem fr_sub64J {T x y T' p q} (j : Nat) (ho : o.op = .binOp .sub T x y T') (hx : ev env x = some (.int .i64 p)) (hy : ev env y = some (.int .i64 q)) (h : p - q = (j : Int)) (hj : j ≤ 4611686018427387904) : Free C o env m (.int .i64 (j : Int)) := by
  have := fr_sub64 (C := C) (m := m) ho hx hy (by omega)
  rwa [h] at this
theorem set_put {α : Type} {f : α → List Value} {sz : Nat} (hf : ∀ x, (f x).length = sz) (xs : List α) (k : Nat) (y : α) (h : k < xs.length) {i : Nat} (hi : i = k * sz) {v : List Value} (hv : v = f y) : put (xs.flatMap f) i v = (xs.set k y).flatMap f := by
  subst hi hv
  exact flat_put hf xs k y h
end Go.Sx
namespace Go.W
open Go Go.Sx
/-- Digits laid so far. -/
structure DgS where
  k : Nat
  d : List Int
def zeros8 : List Int := [0, 0, 0, 0, 0, 0, 0, 0]
theorem nums_set {d : List Int} (h : Nums 255 d) {i : Nat} {n : Int} (hn : 0 ≤ n ∧ n ≤ 255) : Nums 255 (d.set i n) := fun x hx => by
  rcases List.mem_or_eq_of_mem_set hx with h1 | h1
  · exact h x h1
  · subst h1; exact hn
theorem nums_z : Nums 255 zeros8 := fun x hx => by
  simp only [zeros8, List.mem_cons, List.not_mem_nil, or_false, or_self] at hx
  subst hx
  exact ⟨by decide, by decide⟩
/-- What is read of a text for a stack, a valid one or not. -/
def RdDig (s : List Int) (t : List UInt8) (x : Dig × Int) : Prop := (validStack s = false ∧ x = (dig0, 1)) ∨ (validStack s = true ∧ DigRd s t x)
theorem rdDig_one {s : List Int} {t : List UInt8} {x y : Dig × Int} (hx : RdDig s t x) (hy : RdDig s t y) : x = y := by
  rcases hx with ⟨a, rfl⟩ | ⟨a, hx⟩
  · rcases hy with ⟨_, rfl⟩ | ⟨b, _⟩
    · rfl
    · rw [a] at b; cases b
  · rcases hy with ⟨b, _⟩ | ⟨b, hy⟩
    · rw [a] at b; cases b
    · exact digRd_one (stk a) hx hy
theorem rdDig_num {s : List Int} {t : List UInt8} {x : Dig × Int} (hx : RdDig s t x) : Nums 255 x.1.l := by
  rcases hx with ⟨_, rfl⟩ | ⟨_, hx⟩
  · exact nums_z
  · exact hx.1
theorem rdDig_v {s : List Int} {t : List UInt8} (h : validStack s = false) : RdDig s t (dig0, 1) := .inl ⟨h, rfl⟩
theorem rdDig_no {s : List Int} {t : List UInt8} (h : validStack s = true) (h1 : NoDig s t) : RdDig s t (dig0, 5) := .inr ⟨h, nums_z, .inr ⟨rfl, rfl, h1⟩⟩
/-- The program's digits have the text: they are valid. -/
theorem rdDig_i {s : List Int} {t : List UInt8} {d : List Int} (h : validStack s = true) (h8 : d.length = 8) (hn : Nums 255 d) (hl : (splitA 58 [] t).length = s.length) (hd : DigU s t d s.length) (ht : digTx s (dig d).l = t) : RdDig s t (dig d, 0) := by
  refine .inr ⟨h, ?_⟩
  unfold DigRd
  rw [dig_l h8] at ht ⊢
  refine ⟨hn, .inl ⟨rfl, ?_⟩⟩
  cases hv : validDig s d
  · exfalso
    rw [digTx_f (by rw [h, hv]; rfl)] at ht
    subst ht
    have hs := stk h
    have h1 := hs.len1
    have hl : [[]].length = s.length := hl
    simp only [List.length_cons, List.length_nil] at hl
    have h2 := (hd 0 (by omega)).1 (by omega) (by omega)
    rw [show s.length - 1 - 0 = 0 by omega] at h2
    have h3 : U7 [] (d.getD 0 0) := h2
    have h4 := h3.2.2
    exact absurd h4 (by simp [Lib.parseUintB])
  · exact ⟨rfl, by rw [← ht]; exact (digTx_t (by rw [h, hv]; rfl)).symm⟩
theorem rdDig_n {s : List Int} {t : List UInt8} {d : List Int} (h : validStack s = true) (h8 : d.length = 8) (hd : DigU s t d s.length) (ht : ¬ digTx s (dig d).l = t) : RdDig s t (dig0, 5) :=
  rdDig_no h (ndg_end h (d := dig d) (by rw [dig_l h8]; exact hd) ht)
/-! ### ParseUint at seven bits -/
def PUint (t : List UInt8) (n : Int) (b : Bool) : Prop := (0 ≤ n ∧ n ≤ 127) ∧ (b = true → U7 t n) ∧ (b = false → ∀ u, ¬ U7 t u)
end Go.W
namespace Go.W
open Go Go.Sx
theorem pum_bd : ∀ (l : List UInt8) (a u : Nat), a ≤ 127 → Lib.parseUintM 127 a l = .ok u → u ≤ 127
  | [], a, u, ha, h => by
    injection h with h
    omega
  | c :: r, a, u, ha, h => by
    unfold Lib.parseUintM at h
    split at h
    · split at h
      · cases h
      · split at h
        · cases h
        · exact pum_bd r _ u (by omega) h
    · cases h
theorem puint_ok {t : List UInt8} {u : Nat} (h : Lib.parseUintB 7 t = .ok u) : PUint t u true := by
  have hb : u ≤ 127 := by
    unfold Lib.parseUintB at h
    split at h
    · cases h
    · exact pum_bd t 0 u (by decide) h
  refine ⟨⟨by omega, by omega⟩, fun _ => ⟨by omega, by omega, by rw [Int.toNat_natCast]; exact h⟩, ?_⟩
  intro e; exact absurd e (by simp)
theorem puint_no {t : List UInt8} {n : Int} (hn : 0 ≤ n ∧ n ≤ 127) (h : ∀ u, Lib.parseUintB 7 t ≠ .ok u) : PUint t n false := by
  refine ⟨hn, ?_, fun _ u hu => h _ hu.2.2⟩
  intro e; exact absurd e (by simp)
end Go.W

/- Tickets read from their texts: a ticket is read iff the text is its own. -/
set_option linter.unusedVariables false
set_option linter.unusedSimpArgs false
namespace Go.W
open Go Go.Sx
theorem val_inj {s l l' : List Int} (hs : Stk s) (h : DigOk s l) (h' : DigOk s l') (hn : s.length ≤ l.length) (hn' : s.length ≤ l'.length) : ∀ j k, k + j = s.length → val (s.drop k) (l.drop k) = val (s.drop k) (l'.drop k) → ∀ i, k ≤ i → i < s.length → l.getD i 0 = l'.getD i 0
  | 0, k, hk, _, i, h1, h2 => by omega
  | j + 1, k, hk, hv, i, h1, h2 => by
    have hb := hs.bases k (by omega)
    have a1 := h k (by omega)
    have a2 := h' k (by omega)
    rw [val_drop (s := s) (l := l) (k := k) (by omega) (by omega), val_drop (s := s) (l := l') (k := k) (by omega) (by omega)] at hv
    have key : l.getD k 0 = l'.getD k 0 ∧ val (s.drop (k + 1)) (l.drop (k + 1)) = val (s.drop (k + 1)) (l'.drop (k + 1)) := by
      generalize val (s.drop (k + 1)) (l.drop (k + 1)) = x at hv ⊢
      generalize val (s.drop (k + 1)) (l'.drop (k + 1)) = y at hv ⊢
      generalize l.getD k 0 = p at *
      generalize l'.getD k 0 = q at *
      generalize s.getD k 0 = b at *
      have e1 : (p + b * x) % b = p := by rw [Int.add_mul_emod_self_left, Int.emod_eq_of_lt a1.1 a1.2]
      have e2 : (q + b * y) % b = q := by rw [Int.add_mul_emod_self_left, Int.emod_eq_of_lt a2.1 a2.2]
      have hpq : p = q := by rw [hv, e2] at e1; exact e1.symm
      refine ⟨hpq, ?_⟩
      subst hpq
      have h3 : b * x = b * y := by omega
      exact Int.eq_of_mul_eq_mul_left (by omega) h3
    by_cases hik : i = k
    · subst hik; exact key.1
    · exact val_inj hs h h' hn hn' j (k + 1) (by omega) key.2 i (by omega) h2
/-- Digits are those of their value. -/
theorem dig_val {s : List Int} {d : Dig} (hs : Stk s) (hn : Nums 255 d.l) (hv : validDig s d.l = true) : dig (digs s (val s d.l)) = d := by
  have h8 := hs.len8
  have hd := digOk h8 hn hv
  have hb := val_lt hs hd (by rw [dig_len]; omega)
  have e := val_of' hs hb.1 hb.2
  apply dig_inj
  rw [dig_l (digs_len _ _)]
  apply List.ext_getElem (by rw [digs_len, dig_len])
  intro i h1 h2
  have hi : i < 8 := h2
  have key : (digs s (val s d.l)).getD i 0 = d.l.getD i 0 := by
    by_cases his : i < s.length
    · refine val_inj hs (digs_ok hs) hd (by rw [digs_len]; omega) (by rw [dig_len]; omega) s.length 0 (by omega) ?_ i (Nat.zero_le _) his
      simpa using e
    · rw [digs_at hi, if_neg his]
      unfold validDig at hv
      rw [List.all_eq_true] at hv
      have := hv i (List.mem_range.2 hi)
      unfold goodAt at this
      rw [if_neg his, decide_eq_true_iff] at this
      exact this.symm
  rw [List.getD, List.getD, List.getElem?_eq_getElem h1, List.getElem?_eq_getElem h2] at key
  exact key
theorem dsv_val {s : List Int} {d : Dig} (hs : Stk s) (hn : Nums 255 d.l) (hv : validDig s d.l = true) : dsv s (val s d.l) = d.l := by
  unfold dsv
  rw [dig_val hs hn hv]
theorem digT_no {s l : List Int} {c : UInt8} (hs : Stk s) (hd : DigOk s l) (hc : c.toNat < 48) : c ∉ digT s l := by
  have h58 : c ≠ 58 := fun e => by subst e; exact absurd hc (by decide)
  unfold digT
  have key : ∀ xs : List (List UInt8), (∀ x ∈ xs, c ∉ x) → c ∉ Lib.join xs [58] := fun xs => by
    induction xs with
    | nil => intro _; simp [Lib.join, List.intercalate]
    | cons x r ih =>
      intro h
      cases r with
      | nil => rw [Lib.join_one]; exact h x (by simp)
      | cons y q =>
        rw [join_cons2, List.mem_append, List.mem_append, not_or, not_or]
        exact ⟨⟨h x (by simp), by simpa using h58⟩, ih fun z hz => h z (List.mem_cons_of_mem _ hz)⟩
  refine key _ fun x hx => ?_
  obtain ⟨i, hi, rfl⟩ := List.mem_map.1 hx
  have hi := List.mem_range.1 hi
  have h2 := hd (s.length - 1 - i) (by omega)
  exact dg_no h2.1 (.inl hc)
/-! ### Tickets -/
end Go.W

/- Logs read from their texts: a log is read iff the text is its own. -/
set_option linter.unusedVariables false
set_option linter.unusedSimpArgs false
namespace Go.W
open Go Go.Sx
/-- A reading's line, without its end. -/
def rLn (s : List Int) (x : VP) : List UInt8 := Lib.itoa x.a ++ [32] ++ digT s (dsv s x.b)
theorem joinT_map (l : List VP) (f : VP → List UInt8) : ∀ k, k ≤ l.length → joinT (fun i => f (l.getD i zP) ++ [10]) k = Lib.join ((l.take k).map f ++ [[]]) [10]
  | 0, _ => by simp [joinT, Lib.join_one]
  | k + 1, h => by
    rw [joinT, joinT_map l f k (by omega), List.take_succ_eq_append_getElem (by omega), List.map_append, List.append_assoc]
    have e : l.getD k zP = l[k] := by simp [List.getD, show k < l.length by omega]
    rw [e]
    generalize (l.take k).map f = xs
    induction xs with
    | nil =>
      show Lib.join [[]] [10] ++ (f l[k] ++ [10]) = Lib.join ([f l[k]] ++ [[]]) [10]
      rw [Lib.join_one, List.singleton_append, join_cons2, Lib.join_one]; simp
    | cons y r ih =>
      cases r with
      | nil =>
        simp only [List.nil_append, List.cons_append, List.map_cons, List.map_nil] at ih ⊢
        rw [join_cons2, Lib.join_one, join_cons2, join_cons2, Lib.join_one]; simp
      | cons z q =>
        simp only [List.cons_append] at ih ⊢
        rw [join_cons2, join_cons2, List.append_assoc, List.append_assoc, ← ih]
        simp
theorem rLn_no {s : List Int} (hs : Stk s) {x : VP} : (10 : UInt8) ∉ rLn s x := by
  have h1 : (10 : UInt8) ∉ Lib.itoa x.a := by
    by_cases h : x.a < 0
    · rw [itoa_neg h, List.mem_cons, not_or]
      exact ⟨by decide, itoa_no (by omega) (by decide)⟩
    · exact itoa_no (by omega) (by decide)
  have h2 : (10 : UInt8) ∉ digT s (dsv s x.b) := digT_no hs (digOk hs.len8 (dsv_num hs _) (dsv_valid hs _)) (by decide)
  unfold rLn
  simp [h1, h2]
theorem log_lines {s : List Int} (hs : Stk s) (l : List VP) : splitA 10 [] (lText s l l.length) = l.map (rLn s) ++ [[]] := by
  have e : lText s l l.length = Lib.join (l.map (rLn s) ++ [[]]) [10] := by
    have := joinT_map l (rLn s) l.length (Nat.le_refl _)
    rw [List.take_length] at this
    exact this
  rw [e]
  refine split_join _ (by simp) fun x hx => ?_
  rcases List.mem_append.1 hx with hx | hx
  · obtain ⟨y, hy, rfl⟩ := List.mem_map.1 hx
    exact rLn_no hs
  · rw [List.mem_singleton] at hx; subst hx; simp
theorem rLn_parts {s : List Int} (hs : Stk s) {x : VP} (h : 0 ≤ x.a) : splitA 32 [] (rLn s x) = [Lib.itoa x.a, digT s (dsv s x.b)] := by
  have e : rLn s x = Lib.join [Lib.itoa x.a, digT s (dsv s x.b)] [32] := by rw [join_cons2, Lib.join_one]; rfl
  rw [e]
  refine split_join _ (by simp) fun y hy => ?_
  simp only [List.mem_cons, List.not_mem_nil, or_false] at hy
  rcases hy with rfl | rfl
  · exact itoa_no h (by decide)
  · exact digT_no hs (digOk hs.len8 (dsv_num hs _) (dsv_valid hs _)) (by decide)
def NoLog (s : List Int) (t : List UInt8) : Prop := ∀ l : List VP, validLog s l = true → lText s l l.length ≠ t
/-- What the lines of a text are where it is a log's. -/
structure LogP (s : List Int) (t : List UInt8) (l : List VP) : Prop where
  v : Log s l
  len : (splitA 10 [] t).length = l.length + 1
  last : (splitA 10 [] t).getD l.length [] = []
  line : ∀ i, i < l.length → (splitA 10 [] t).getD i [] = rLn s (l.getD i zP)
theorem log_p {s : List Int} {t : List UInt8} {l : List VP} (hv : validLog s l = true) (ht : lText s l l.length = t) : LogP s t l := by
  have hL := log hv
  have hp := log_lines (stk hL.stk) l
  rw [ht] at hp
  refine ⟨hL, by rw [hp]; simp, by rw [hp]; simp [List.getD], fun i hi => ?_⟩
  rw [hp]
  simp [List.getD, List.getElem?_append, hi]
theorem log_inj {s : List Int} {l l' : List VP} (hv : validLog s l = true) (hv' : validLog s l' = true) (h : lText s l l.length = lText s l' l'.length) : l = l' := by
  have a := log_p hv h
  have b := log_p hv' rfl
  have hs := stk a.v.stk
  have hz := hs.size_
  have hl : l.length = l'.length := by have := a.len; have := b.len; omega
  refine List.ext_getElem hl fun i h1 h2 => ?_
  have e := (a.line i h1).symm.trans (b.line i h2)
  have d1 := a.v.day i h1
  have d2 := b.v.day i h2
  have v1 := a.v.val i h1
  have v2 := b.v.val i h2
  have p1 := rLn_parts hs (x := l.getD i zP) d1.1
  have p2 := rLn_parts hs (x := l'.getD i zP) d2.1
  rw [e, p2] at p1
  simp only [List.cons.injEq, and_true] at p1
  have ea := itoa_inj (by omega) (by omega) p1.1
  have ed : dig (digs s (l'.getD i zP).b) = dig (digs s (l.getD i zP).b) := dig_one hs (dsv_num hs _) (dsv_num hs _) (dsv_valid hs _) (dsv_valid hs _) p1.2
  have eb : (l'.getD i zP).b = (l.getD i zP).b := by
    have w1 := val_of' hs v1.1 (by omega)
    have w2 := val_of' hs v2.1 (by omega)
    have : digs s (l'.getD i zP).b = digs s (l.getD i zP).b := by
      have := congrArg Dig.l ed
      rwa [dig_l (digs_len _ _), dig_l (digs_len _ _)] at this
    rw [← w1, ← w2, this]
  simp only [List.getD, List.getElem?_eq_getElem h1, List.getElem?_eq_getElem h2, Option.getD_some] at ea eb
  cases hx : l[i]
  cases hy : l'[i]
  rw [hx, hy] at ea eb
  simp only at ea eb
  rw [ea, eb]
/-- The readings of a text's first lines. -/
def ReadsTo (s : List Int) (t : List UInt8) (l : List VP) : Prop := ∀ i, i < l.length → I64' (l.getD i zP).a ∧ (splitA 10 [] t).getD i [] = rLn s (l.getD i zP)
theorem ReadsTo.nil (s : List Int) (t : List UInt8) : ReadsTo s t [] := fun i hi => by simp at hi
theorem ReadsTo.snoc {s : List Int} {t : List UInt8} {l : List VP} {x : VP} (h : ReadsTo s t l) (h1 : I64' x.a) (h2 : (splitA 10 [] t).getD l.length [] = rLn s x) : ReadsTo s t (l ++ [x]) := fun i hi => by
  rw [List.length_append, List.length_singleton] at hi
  by_cases he : i < l.length
  · have := h i he
    simpa [List.getD, List.getElem?_append, he] using this
  · obtain rfl : i = l.length := by omega
    have e : (l ++ [x]).getD l.length zP = x := by simp [List.getD, List.getElem?_append]
    rw [e]
    exact ⟨h1, h2⟩
theorem reads_text {s : List Int} {t : List UInt8} {l : List VP} (h : ReadsTo s t l) (hn : (splitA 10 [] t).length = l.length + 1) (h0 : (splitA 10 [] t).getD l.length [] = []) : lText s l l.length = t := by
  have hp : splitA 10 [] t = l.map (rLn s) ++ [[]] := by
    apply List.ext_getElem
    · rw [hn]; simp
    · intro i h1 h2
      by_cases hi : i < l.length
      · have := (h i hi).2
        rw [List.getElem_append_left (by simpa using hi)]
        simp only [List.getD, List.getElem?_eq_getElem h1, List.getElem?_eq_getElem hi, Option.getD_some] at this
        rw [this, List.getElem_map]
      · obtain rfl : i = l.length := by omega
        rw [List.getElem_append_right (by simp)]
        simp only [List.getD, List.getElem?_eq_getElem h1, Option.getD_some] at h0
        rw [h0]; simp
  have e : lText s l l.length = Lib.join (l.map (rLn s) ++ [[]]) [10] := by
    have := joinT_map l (rLn s) l.length (Nat.le_refl _)
    rw [List.take_length] at this
    exact this
  have hj := join_split 10 t []
  rw [hp, List.nil_append] at hj
  rw [e]; exact hj
def RdLog (s : List Int) (t : List UInt8) (x : RdS VP) : Prop := (validStack s = false ∧ x.l = [] ∧ x.code = 1) ∨ (validStack s = true ∧ ((x.code = 0 ∧ validLog s x.l = true ∧ lText s x.l x.l.length = t) ∨ (x.code = 5 ∧ x.l = [] ∧ NoLog s t)))
theorem rdLog_one {s : List Int} {t : List UInt8} {x y : RdS VP} (hx : RdLog s t x) (hy : RdLog s t y) : x.l = y.l ∧ x.code = y.code := by
  rcases hx with ⟨a, a1, a2⟩ | ⟨a, hx⟩
  · rcases hy with ⟨_, b1, b2⟩ | ⟨b, _⟩
    · exact ⟨a1.trans b1.symm, a2.trans b2.symm⟩
    · rw [a] at b; cases b
  · rcases hy with ⟨b, _⟩ | ⟨b, hy⟩
    · rw [a] at b; cases b
    · rcases hx with ⟨c1, c2, c3⟩ | ⟨c1, c2, c3⟩ <;> rcases hy with ⟨d1, d2, d3⟩ | ⟨d1, d2, d3⟩
      · exact ⟨log_inj c2 d2 (c3.trans d3.symm), c1.trans d1.symm⟩
      · exact absurd c3 (d3 x.l c2)
      · exact absurd d3 (c3 y.l d2)
      · exact ⟨c2.trans d2.symm, c1.trans d1.symm⟩
theorem nl_open {s : List Int} {t : List UInt8} {n : Nat} (hn : (splitA 10 [] t).length = n + 1) (h : ¬ (splitA 10 [] t).getD n [] = []) : NoLog s t := fun l hv ht => by
  have p := log_p hv ht
  have := p.len
  have e : n = l.length := by omega
  rw [e] at h
  exact h p.last
theorem nl_40 {s : List Int} {t : List UInt8} (h : 41 < (splitA 10 [] t).length) : NoLog s t := fun l hv ht => by
  have p := log_p hv ht
  have := p.len
  have := p.v.len
  omega
theorem nl_i {s : List Int} {t : List UInt8} {k : Nat} {x : Int × Bool} {d : Dig × Int} (hk : k + 1 < (splitA 10 [] t).length) (hx : RDec (Lib.cut ((splitA 10 [] t).getD k []) [32]).1 x) (hd : RdDig s (Lib.cut ((splitA 10 [] t).getD k []) [32]).2.1 d) (h : ¬ (x.2 = true ∧ d.2 = 0)) : NoLog s t := fun l hv ht => by
  have p := log_p hv ht
  have hl := p.len
  have hs := stk p.v.stk
  have hday := p.v.day k (by omega)
  have hc := cut_more (rLn_parts hs hday.1)
  rw [Lib.join_one] at hc
  rw [p.line k (by omega), hc.1] at hx
  rw [p.line k (by omega), hc.2] at hd
  have e : d = (dig (digs s (l.getD k zP).b), 0) := rdDig_one hd (.inr ⟨p.v.stk, dsv_num hs _, .inl ⟨rfl, dsv_valid hs _, rfl⟩⟩)
  exact h ⟨(hx.2.2.1 (l.getD k zP).a ⟨by omega, by omega⟩ rfl).1, by rw [e]⟩
/-- A line that is read is a reading's line. -/
theorem line_rd {s : List Int} (hv : validStack s = true) {w a b : List UInt8} {n : Int} {d : Dig × Int} (hw : a ++ [32] ++ b = w) (ha : a = Lib.itoa n) (hd : RdDig s b d) (h0 : d.2 = 0) : w = rLn s ⟨n, val s d.1.l⟩ := by
  have hs := stk hv
  rcases hd with ⟨e, _⟩ | ⟨_, hn, h⟩
  · rw [hv] at e; cases e
  · rcases h with ⟨_, h1, h2⟩ | ⟨h1, _⟩
    · rw [← hw, ha, ← h2]
      unfold rLn
      simp only
      rw [dsv_val hs hn h1]
    · rw [h0] at h1; cases h1
theorem rdLog_v {s : List Int} {t : List UInt8} {A : Option Addr} {c : Nat} (h : validStack s = false) : RdLog s t ⟨[], 1, A, c⟩ := .inl ⟨h, rfl, rfl⟩
theorem rdLog_no {s : List Int} {t : List UInt8} {A : Option Addr} {c : Nat} (h : validStack s = true) (h1 : NoLog s t) : RdLog s t ⟨[], 5, A, c⟩ := .inr ⟨h, .inr ⟨rfl, rfl, h1⟩⟩
theorem rdLog_s {s : List Int} {t : List UInt8} {l : List VP} {A : Option Addr} {c : Nat} (h : validStack s = true) (hr : ReadsTo s t l) (hn : (splitA 10 [] t).length = l.length + 1) (h0 : (splitA 10 [] t).getD l.length [] = []) (hv : validLog s l = true) : RdLog s t ⟨l, 0, A, c⟩ := .inr ⟨h, .inl ⟨rfl, hv, reads_text hr hn h0⟩⟩
/-- The lines are read, but the log is not valid: no log has the text. -/
theorem nl_bad {s : List Int} {t : List UInt8} {l : List VP} (hs : validStack s = true) (hr : ReadsTo s t l) (hn : (splitA 10 [] t).length = l.length + 1) (hb : ∀ i, i < l.length → 0 ≤ (l.getD i zP).b ∧ (l.getD i zP).b < prod s) (h : ¬ validLog s l = true) : NoLog s t := fun l' hv ht => by
  have p := log_p hv ht
  have hS := stk hs
  have hz := hS.size_
  have hl : l.length = l'.length := by have := p.len; omega
  apply h
  have e : l = l' := by
    refine List.ext_getElem hl fun i h1 h2 => ?_
    have q := hr i h1
    have e := q.2.symm.trans (p.line i h2)
    have d2 := p.v.day i h2
    have v1 := hb i h1
    have v2 := p.v.val i h2
    have hc2 := cut_more (rLn_parts hS (x := l'.getD i zP) d2.1)
    have p2 := rLn_parts hS (x := l'.getD i zP) d2.1
    rw [← e] at p2
    have p1 : splitA 32 [] (rLn s (l.getD i zP)) = [Lib.itoa (l.getD i zP).a, digT s (dsv s (l.getD i zP).b)] := by
      have e1 : rLn s (l.getD i zP) = Lib.join [Lib.itoa (l.getD i zP).a, digT s (dsv s (l.getD i zP).b)] [32] := by rw [join_cons2, Lib.join_one]; rfl
      rw [e1]
      refine split_join _ (by simp) fun y hy => ?_
      simp only [List.mem_cons, List.not_mem_nil, or_false] at hy
      rcases hy with rfl | rfl
      · by_cases h : (l.getD i zP).a < 0
        · rw [itoa_neg h, List.mem_cons, not_or]
          exact ⟨by decide, itoa_no (by omega) (by decide)⟩
        · exact itoa_no (by omega) (by decide)
      · exact digT_no hS (digOk hS.len8 (dsv_num hS _) (dsv_valid hS _)) (by decide)
    rw [p1] at p2
    simp only [List.cons.injEq, and_true] at p2
    have ea := itoa_inj q.1 (by omega) p2.1
    have ed : dig (digs s (l.getD i zP).b) = dig (digs s (l'.getD i zP).b) := dig_one hS (dsv_num hS _) (dsv_num hS _) (dsv_valid hS _) (dsv_valid hS _) p2.2
    have eb : (l.getD i zP).b = (l'.getD i zP).b := by
      have w1 := val_of' hS v1.1 (by omega)
      have w2 := val_of' hS v2.1 (by omega)
      have : digs s (l.getD i zP).b = digs s (l'.getD i zP).b := by
        have := congrArg Dig.l ed
        rwa [dig_l (digs_len _ _), dig_l (digs_len _ _)] at this
      rw [← w1, ← w2, this]
    simp only [List.getD, List.getElem?_eq_getElem h1, List.getElem?_eq_getElem h2, Option.getD_some] at ea eb
    cases hx : l[i]
    cases hy : l'[i]
    rw [hx, hy] at ea eb
    simp only at ea eb
    rw [ea, eb]
  rw [e]; exact hv
end Go.W
namespace Go.W
open Go Go.Sx
theorem rdDig_ok {s : List Int} {t : List UInt8} {x : Dig × Int} (hv : validStack s = true) (hx : RdDig s t x) (h : x.2 = 0) : validDig s x.1.l = true ∧ t ≠ [] := by
  rcases hx with ⟨e, _⟩ | ⟨_, hn, ⟨_, h1, h2⟩ | ⟨h1, _⟩⟩
  · rw [hv] at e; cases e
  · refine ⟨h1, fun e => ?_⟩
    have hs := stk hv
    have hp := dig_parts hs (digOk hs.len8 hn h1)
    rw [h2, e] at hp
    have h3 : (splitA 58 [] []) = [[]] := rfl
    rw [h3] at hp
    have hl := congrArg List.length hp
    rw [partsF_len] at hl
    have h4 : ([] : List UInt8) = dpart s x.1.l 0 := by
      have := congrArg (fun l => List.getD l 0 [1]) hp
      simp only [List.getD_cons_zero] at this
      rw [this]
      simp [partsF, List.getD, show 0 < s.length by have := hs.len1; omega]
    exact dgT_ne h4.symm
  · rw [h] at h1; cases h1
theorem cut_join {w : List UInt8} (h : (Lib.cut w [32]).2.1 ≠ []) : (Lib.cut w [32]).1 ++ [32] ++ (Lib.cut w [32]).2.1 = w := by
  rcases hp : splitA 32 [] w with _ | ⟨a, _ | ⟨b, r⟩⟩
  · exact absurd hp (splitA_ne 32 w [])
  · exact absurd (cut_one hp).2 h
  · obtain ⟨h1, h2⟩ := cut_more hp
    rw [h1, h2]
    have hj := join_split 32 w []
    rw [hp, join_cons2, List.nil_append] at hj
    exact hj
theorem rd_val {s : List Int} {x : Dig × Int} {t : List UInt8} (hv : validStack s = true) (hx : RdDig s t x) (h : x.2 = 0) : 0 ≤ val s x.1.l ∧ val s x.1.l < prod s := by
  have hs := stk hv
  have h8 := hs.len8
  exact val_lt hs (digOk h8 (rdDig_num hx) (rdDig_ok hv hx h).1) (by rw [dig_len]; omega)
theorem bd_snoc {s : List Int} {l : List VP} {x : VP} (h : ∀ i, i < l.length → 0 ≤ (l.getD i zP).b ∧ (l.getD i zP).b < prod s) (hx : 0 ≤ x.b ∧ x.b < prod s) : ∀ i, i < (l ++ [x]).length → 0 ≤ ((l ++ [x]).getD i zP).b ∧ ((l ++ [x]).getD i zP).b < prod s := fun i hi => by
  rw [List.length_append, List.length_singleton] at hi
  by_cases he : i < l.length
  · have := h i he
    simpa [List.getD, List.getElem?_append, he] using this
  · obtain rfl : i = l.length := by omega
    have e : (l ++ [x]).getD l.length zP = x := by simp [List.getD, List.getElem?_append]
    rw [e]; exact hx
end Go.W

/- A drawn story's lists; what the law of stories asks. -/
set_option linter.unusedVariables false
set_option linter.unusedSimpArgs false
namespace Go.W
open Go Go.Sx
/-- Where a list of kept readings begins that may begin one further. -/
def cutJ (b : Bool) (A : Option Addr) (c : Nat) : Option Addr := if b = true then cutA A c 1 1 else A
theorem encY_of {A A1 A2 : Option Addr} {c' c1 c2 n1 n2 : Nat} {L0 L2 : List Int} {c e : Int} (b : Bool) (h1 : n1 = (dropB b L0).length) (h2 : n2 = L2.length) (hA : A = cutJ b A1 c1) (hc : c' = c1 - backB b) (he : e = c) : Value.agg (List.toArray [.slice A n1 c', .slice A2 n2 c2, .int .i64 e]) = .agg (encY (cutJ b A1 c1) (c1 - backB b) A2 c2 ⟨dropB b L0, L2, c⟩).toArray := by
  subst h1 h2 hA hc he; rfl
theorem len_app {n : Nat} {L : List Int} {z : Int} (h : n = L.length) : n + 1 = (dropB false (L ++ [z])).length := by
  subst h
  show L.length + 1 = (L ++ [z]).length
  rw [List.length_append]; rfl
theorem readsJ {C : Cx} {m : List Ent} {i n c E : Nat} {A : Option Addr} {L : List Int} (b : Bool) (hi : m[i]? = some (.row (.slice A n c) E 1 n (L.flatMap (eI .i64)))) : Reads C m (cutJ b A c) ((dropB b L).flatMap (eI .i64)) := by
  cases b with
  | false => exact Reads.row hi
  | true =>
    intro w hw
    have h := row_some hi w hw
    have hl : L.length ≤ c := by
      have := h.1
      rw [flat_len (eI_len .i64)] at this
      have := h.2.1
      omega
    exact Reads.dropL (Reads.row hi) (eI_len .i64) hl 1 w hw
theorem dropB_len (b : Bool) (L : List Int) : (dropB b L).length ≤ L.length := by
  unfold dropB; split
  · rw [List.length_drop]; omega
  · exact Nat.le_refl _
theorem rdLog_back {s : List Int} {l : List VP} {x : RdS VP} (hs : validStack s = true) (hv : validLog s l = true) (hx : RdLog s (logTx s l) x) : x.l = l ∧ x.code = 0 := by
  have hy : RdLog s (logTx s l) ⟨l, 0, none, 0⟩ := .inr ⟨hs, .inl ⟨rfl, hv, by rw [logTx_t hv]⟩⟩
  exact rdLog_one hx hy
theorem ask_tt {s : List Int} {l : List VP} {f : VP} (h : validLog s l = true) (h2 : validFlow f = true) : askS s l f = true := by
  unfold askS; rw [h, h2]; rfl
/-- What the law asks of a cost without a reading. -/
structure WoL (s : List Int) (l : List VP) (f : VP) (k : Nat) : Prop where
  six : l.length = 1 → (withoutV s l f (k : Int)).2 = 6
  ok : l.length ≠ 1 → (withoutV s l f (k : Int)).2 = 0
  ge : l.length ≠ 1 → (stV (fitsF s l f) l.length).cost ≤ (withoutV s l f (k : Int)).1
  eq : l.length ≠ 1 → (stV (fitsF s l f) l.length).kept.contains (k : Int) = false → (withoutV s l f (k : Int)).1 = (stV (fitsF s l f) l.length).cost
  sure : l.length ≠ 1 → (sureV s l f).1.contains (k : Int) = true → (withoutV s l f (k : Int)).1 = (stV (fitsF s l f) l.length).cost
  not_ : (stV (fitsF s l f) l.length).kept.contains (k : Int) = true → ¬ (sureV s l f).1.contains (k : Int) = true
theorem wol {s : List Int} {l : List VP} {f : VP} {k : Nat} (h : askS s l f = true) (hk : k < l.length) : WoL s l f k := by
  have hr : 0 ≤ (k : Int) ∧ (k : Int) ≤ (l.length : Int) - 1 := by omega
  have hs := su_0 (s := s) (l := l) (f := f) h rfl
  have hnot : (stV (fitsF s l f) l.length).kept.contains (k : Int) = true → ¬ (sureV s l f).1.contains (k : Int) = true := fun h1 h2 => by
    rw [List.contains_iff_mem] at h1 h2
    rw [hs] at h2
    exact kept_not_sure h1 h2
  have heq : l.length ≠ 1 → (stV (fitsF s l f) l.length).kept.contains (k : Int) = false → (withoutV s l f (k : Int)).1 = (stV (fitsF s l f) l.length).cost := fun h1 h2 => by
    rw [wt_0 h hr h1]
    exact (without_law hk h1).2 (fun h9 => by
      rw [← Bool.not_eq_true, List.contains_iff_mem] at h2
      exact h2 h9)
  refine ⟨fun h1 => by rw [wt_6 h hr h1], fun h1 => by rw [wt_0 h hr h1], fun h1 => by rw [wt_0 h hr h1]; exact (without_law hk h1).1, heq, fun h1 h2 => heq h1 ?_, hnot⟩
  cases h3 : (stV (fitsF s l f) l.length).kept.contains (k : Int) with
  | false => rfl
  | true => exact absurd h2 (hnot h3)
end Go.W

/- What these functions of the program hand back, each proved by walking its operations. -/
set_option linter.unusedVariables false
set_option linter.unusedSimpArgs false
set_option maxRecDepth 4000
namespace Go.Proofs.YtddflaaccmjoeaaGreatDoor
open Go Go.Sx Go.RowKit Go.W Go.Proofs
attribute [local irreducible] Ex ExL ExD Op1 Free RetQ MutQ Reads CellO SegO LoadsAs
end Go.Proofs.YtddflaaccmjoeaaGreatDoor

/- What these functions of the program hand back, each proved by walking its operations. -/
set_option linter.unusedVariables false
set_option linter.unusedSimpArgs false
set_option maxRecDepth 4000
namespace Go.Proofs.YtddflaaccmjoeaaGreatDoor
open Go Go.Sx Go.RowKit Go.W Go.Proofs
attribute [local irreducible] Ex ExL ExD Op1 Free RetQ MutQ Reads CellO SegO LoadsAs
end Go.Proofs.YtddflaaccmjoeaaGreatDoor

/- What these functions of the program hand back, each proved by walking its operations. -/
set_option linter.unusedVariables false
set_option linter.unusedSimpArgs false
set_option maxRecDepth 4000
namespace Go.Proofs.YtddflaaccmjoeaaGreatDoor
open Go Go.Sx Go.RowKit Go.W Go.Proofs
attribute [local irreducible] Ex ExL ExD Op1 Free RetQ MutQ Reads CellO SegO LoadsAs
end Go.Proofs.YtddflaaccmjoeaaGreatDoor

/- What these functions of the program hand back, each proved by walking its operations. -/
set_option linter.unusedVariables false
set_option linter.unusedSimpArgs false
set_option maxRecDepth 4000
namespace Go.Proofs.YtddflaaccmjoeaaGreatDoor
open Go Go.Sx Go.RowKit Go.W Go.Proofs
attribute [local irreducible] Ex ExL ExD Op1 Free RetQ MutQ Reads CellO SegO LoadsAs
end Go.Proofs.YtddflaaccmjoeaaGreatDoor

/- What these functions of the program hand back, each proved by walking its operations. -/
set_option linter.unusedVariables false
set_option linter.unusedSimpArgs false
set_option maxRecDepth 4000
namespace Go.Proofs.YtddflaaccmjoeaaGreatDoor
open Go Go.Sx Go.RowKit Go.W Go.Proofs
attribute [local irreducible] Ex ExL ExD Op1 Free RetQ MutQ Reads CellO SegO LoadsAs
end Go.Proofs.YtddflaaccmjoeaaGreatDoor

/- What these functions of the program hand back, each proved by walking its operations. -/
set_option linter.unusedVariables false
set_option linter.unusedSimpArgs false
set_option maxRecDepth 4000
namespace Go.Proofs.YtddflaaccmjoeaaGreatDoor
open Go Go.Sx Go.RowKit Go.W Go.Proofs
attribute [local irreducible] Ex ExL ExD Op1 Free RetQ MutQ Reads CellO SegO LoadsAs
end Go.Proofs.YtddflaaccmjoeaaGreatDoor

/- What these functions of the program hand back, each proved by walking its operations. -/
set_option linter.unusedVariables false
set_option linter.unusedSimpArgs false
set_option maxRecDepth 4000
namespace Go.Proofs.YtddflaaccmjoeaaGreatDoor
open Go Go.Sx Go.RowKit Go.W Go.Proofs
attribute [local irreducible] Ex ExL ExD Op1 Free RetQ MutQ Reads CellO SegO LoadsAs
end Go.Proofs.YtddflaaccmjoeaaGreatDoor

/- What these functions of the program hand back, each proved by walking its operations. -/
set_option linter.unusedVariables false
set_option linter.unusedSimpArgs false
set_option maxRecDepth 4000
namespace Go.Proofs.YtddflaaccmjoeaaGreatDoor
open Go Go.Sx Go.RowKit Go.W Go.Proofs
attribute [local irreducible] Ex ExL ExD Op1 Free RetQ MutQ Reads CellO SegO LoadsAs
end Go.Proofs.YtddflaaccmjoeaaGreatDoor

/- What these functions of the program hand back, each proved by walking its operations. -/
set_option linter.unusedVariables false
set_option linter.unusedSimpArgs false
set_option maxRecDepth 4000
namespace Go.Proofs.YtddflaaccmjoeaaGreatDoor
open Go Go.Sx Go.RowKit Go.W Go.Proofs
attribute [local irreducible] Ex ExL ExD Op1 Free RetQ MutQ Reads CellO SegO LoadsAs
end Go.Proofs.YtddflaaccmjoeaaGreatDoor

/- What these functions of the program hand back, each proved by walking its operations. -/
set_option linter.unusedVariables false
set_option linter.unusedSimpArgs false
set_option maxRecDepth 4000
namespace Go.Proofs.YtddflaaccmjoeaaGreatDoor
open Go Go.Sx Go.RowKit Go.W Go.Proofs
attribute [local irreducible] Ex ExL ExD Op1 Free RetQ MutQ Reads CellO SegO LoadsAs
end Go.Proofs.YtddflaaccmjoeaaGreatDoor

/- What these functions of the program hand back, each proved by walking its operations. -/
set_option linter.unusedVariables false
set_option linter.unusedSimpArgs false
set_option maxRecDepth 4000
namespace Go.Proofs.YtddflaaccmjoeaaGreatDoor
open Go Go.Sx Go.RowKit Go.W Go.Proofs
attribute [local irreducible] Ex ExL ExD Op1 Free RetQ MutQ Reads CellO SegO LoadsAs
end Go.Proofs.YtddflaaccmjoeaaGreatDoor

/- What these functions of the program hand back, each proved by walking its operations. -/
set_option linter.unusedVariables false
set_option linter.unusedSimpArgs false
set_option maxRecDepth 4000
namespace Go.Proofs.YtddflaaccmjoeaaGreatDoor
open Go Go.Sx Go.RowKit Go.W Go.Proofs
attribute [local irreducible] Ex ExL ExD Op1 Free RetQ MutQ Reads CellO SegO LoadsAs
end Go.Proofs.YtddflaaccmjoeaaGreatDoor

/- What these functions of the program hand back, each proved by walking its operations. -/
set_option linter.unusedVariables false
set_option linter.unusedSimpArgs false
set_option maxRecDepth 4000
namespace Go.Proofs.YtddflaaccmjoeaaGreatDoor
open Go Go.Sx Go.RowKit Go.W Go.Proofs
attribute [local irreducible] Ex ExL ExD Op1 Free RetQ MutQ Reads CellO SegO LoadsAs
end Go.Proofs.YtddflaaccmjoeaaGreatDoor

/- What these functions of the program hand back, each proved by walking its operations. -/
set_option linter.unusedVariables false
set_option linter.unusedSimpArgs false
set_option maxRecDepth 4000
namespace Go.Proofs.YtddflaaccmjoeaaGreatDoor
open Go Go.Sx Go.RowKit Go.W Go.Proofs
attribute [local irreducible] Ex ExL ExD Op1 Free RetQ MutQ Reads CellO SegO LoadsAs
end Go.Proofs.YtddflaaccmjoeaaGreatDoor

/- What these functions of the program hand back, each proved by walking its operations. -/
set_option linter.unusedVariables false
set_option linter.unusedSimpArgs false
set_option maxRecDepth 4000
namespace Go.Proofs.YtddflaaccmjoeaaGreatDoor
open Go Go.Sx Go.RowKit Go.W Go.Proofs
attribute [local irreducible] Ex ExL ExD Op1 Free RetQ MutQ Reads CellO SegO LoadsAs
end Go.Proofs.YtddflaaccmjoeaaGreatDoor

/- What these functions of the program hand back, each proved by walking its operations. -/
set_option linter.unusedVariables false
set_option linter.unusedSimpArgs false
set_option maxRecDepth 4000
namespace Go.Proofs.YtddflaaccmjoeaaGreatDoor
open Go Go.Sx Go.RowKit Go.W Go.Proofs
attribute [local irreducible] Ex ExL ExD Op1 Free RetQ MutQ Reads CellO SegO LoadsAs
end Go.Proofs.YtddflaaccmjoeaaGreatDoor

/- What these functions of the program hand back, each proved by walking its operations. -/
set_option linter.unusedVariables false
set_option linter.unusedSimpArgs false
set_option maxRecDepth 4000
namespace Go.Proofs.YtddflaaccmjoeaaGreatDoor
open Go Go.Sx Go.RowKit Go.W Go.Proofs
attribute [local irreducible] Ex ExL ExD Op1 Free RetQ MutQ Reads CellO SegO LoadsAs
end Go.Proofs.YtddflaaccmjoeaaGreatDoor

/- What these functions of the program hand back, each proved by walking its operations. -/
set_option linter.unusedVariables false
set_option linter.unusedSimpArgs false
set_option maxRecDepth 4000
namespace Go.Proofs.YtddflaaccmjoeaaGreatDoor
open Go Go.Sx Go.RowKit Go.W Go.Proofs
attribute [local irreducible] Ex ExL ExD Op1 Free RetQ MutQ Reads CellO SegO LoadsAs
theorem e_63 : Enters Tryz.prog 63 := Enters.of Tryz.func63 rfl
theorem c_one (code : List Int) (Ac : Option Addr) (cc : Nat) (hcl : code.length ≤ maxLen) (hcu : Nums 255 code) (b : Nat) (at_ sd : Int) (hat : 0 ≤ at_ ∧ at_ ≤ 1000000000) (n : Int) (hn : n ≤ 60000) : Mut Tryz.prog 63 [.pointer (some ⟨b, 0, none⟩), .int .i64 n] [.blk b [.slice Ac code.length cc, .int .i64 at_, .int .u64 sd] 113] (fun base w0 F => RdB base w0 Ac (code.flatMap (eI .u8))) (fun x : Bool × Int × Int => .bool x.1) (fun x => [.blk b [.slice Ac code.length cc, .int .i64 x.2.1, .int .u64 x.2.2] 113]) (fun x => at_ ≤ x.2.1 ∧ x.2.1 ≤ at_ + 2) := by
  refine Mut.of e_63 Tryz.func63 rfl Tryz.ntmps63 rfl rfl (fun base w0 F hfr => ?_)
  have hcode := hfr
  have hm0 : maxLen = 9223372036854775807 := rfl
  refine Ex.regSeq (ExL.pures 1 rfl ?_)
  refine ExL.nil ?_
  refine Ex.regSeq (ExL.pures 2 rfl ?_)
  refine ExL.op rfl (op_mut rfl rfl rfl (c_pick code _ _ (by omega) (by assumption) _ at_ _ (by omega) n (by omega)) (perm_at (i := 0) rfl) (hcode) rfl rfl (fun x1 hx1 => ?_))
  refine ExL.free (fr_eql rfl rfl rfl) rfl rfl rfl ?_
  refine ExL.pures 1 rfl ?_
  refine ExL.nil ?_
  refine Ex.ret ?_
  refine MutQ.mk (_, x1.2.1, x1.2.2) rfl (.tmp rfl .nil) (rfl) 1 [0] (rfl) rfl (by constructor <;> dsimp only <;> omega)
end Go.Proofs.YtddflaaccmjoeaaGreatDoor
