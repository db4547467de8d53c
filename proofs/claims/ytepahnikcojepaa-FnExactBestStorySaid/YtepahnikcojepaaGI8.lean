/- What these functions of the program hand back, each proved by walking its operations. -/
import Derived.Test.YtepahnikcojepaaProg
import Derived.Test.YtepahnikcojepaaFw
import Derived.Test.YtepahnikcojepaaGI3
import Derived.Test.YtepahnikcojepaaM23
set_option linter.unusedVariables false
set_option linter.unusedSimpArgs false
set_option maxRecDepth 4000
namespace Go.Proofs.Ytepahnikcojepaa
open Go Go.Sx Go.RowKit Go.W Go.Proofs
attribute [local irreducible] Ex ExL ExD Op1 Free RetQ MutQ Reads CellO SegO LoadsAs
theorem e_93 : Enters Try.prog 93 := Enters.of Try.func93 rfl
theorem c_best2 (fit : Nat → Nat → Bool) (n : Nat) (hn : n ≤ 40) (K : List (VX Bool)) (hKl : K.length = n) (hCK : CanK fit n K) (b o : Nat) (As Al : Option Addr) (ns cs cl : Nat) (wo : Int) : Ret Try.prog 93 [.pointer (some ⟨b, 0, none⟩), .int .i64 wo] (fun w => Rd w (some ⟨b, 0, none⟩) [.slice As ns cs, .slice Al n cl, .slice (some ⟨o, 0, none⟩) n n] ∧ Rd w (some ⟨o, 0, none⟩) (K.flatMap encX) ∧ ∀ k, k < K.length → Rd w (K.getD k zX).A ((K.getD k zX).xs.flatMap eB)) (fun x : VPl × List Rw => .agg (encPl x.1).toArray) (fun x => [.pile x.2]) (fun x => x.1.t = (btT fit n wo n).2 ∧ OkPl 2 x.2 x.1) := by
  refine Ret.of e_93 Try.func93 rfl Try.ntmps93 rfl rfl (fun w hpre => ?_)
  have hd := hpre.1.base
  have hc := hpre.2.1.base
  have hcr := fun k hk => (hpre.2.2 k hk).base
  have hKn := hKl
  have hm0 : maxLen = 9223372036854775807 := rfl
  refine Ex.regSeq (ExL.pures 0 rfl ?_)
  refine ExL.op rfl (op_alloc rfl rfl rfl rfl rfl (fun b1 => ?_))
  refine ExL.nil ?_
  refine Ex.regSeq (ExL.pures 3 rfl ?_)
  refine ExL.free (fr_load rfl rfl rfl rfl (CellO.at 1 (Reads.old hd) rfl)) rfl rfl rfl ?_
  refine ExL.pures 2 rfl ?_
  refine ExL.nil ?_
  refine Ex.regSeq (ExL.pures 1 rfl ?_)
  refine ExL.op rfl (op_makeSlice (sz := 40) rfl rfl rfl rfl rfl rfl rfl rfl (⟨by omega, by unfold maxLen; omega⟩) rfl rfl (fun r2 => ?_))
  refine ExL.free (fr_build rfl rfl rfl rfl) rfl rfl rfl ?_
  refine ExL.op rfl (op_alloc rfl rfl rfl rfl rfl (fun b3 => ?_))
  refine ExL.pures 1 rfl ?_
  refine ExL.op rfl (op_storeC (i := 0) rfl rfl rfl rfl rfl rfl rfl rfl rfl rfl ?_)
  refine ExL.nil ?_
  refine Ex.regSeq (ExL.pures 1 rfl ?_)
  refine ExL.nil ?_
  refine Ex.seq ?_
  refine Ex.pile0 ?_
  refine Ex.regSeq (ExL.pures 1 rfl ?_)
  refine ExL.free (by first | exact fr_sub64 rfl rfl rfl (by omega) | exact fr_sub rfl rfl rfl) rfl rfl rfl ?_
  refine ExL.pures 1 rfl ?_
  refine ExL.nil ?_
  refine Ex.block ?_
  refine Ex.loopK (X := BSt) (fun q => [(8, .bool (btT fit n wo q.d).1), (9, .int .i64 ((n : Int) - 1 - q.d))]) (fun q => [.row (.slice (some ⟨r2, 0, none⟩) n n) 114 3 n (q.Q.flatMap encPl), .pile q.P, .blk b3 (encPl q.o) 114]) (fun q => BI fit n wo 2 q.d q.Q q.P q.o) (fun q => n - q.d) ⟨0, List.replicate n zPl, [], zPl⟩ [(0, _), (1, _), (4, _), (5, _), (6, _), (7, _)] [_] 4 [2, 0, 1, 3] ⟨rfl, agI (by first | omega | (dsimp only; omega)), trivial⟩ ⟨rfl, rfl, rfl, rfl, rfl, rfl, trivial⟩ (pkR (pl_zero rfl)) rfl (bi_0 _ _ _ _) (fun q hI => ?_)
  have hI : BI fit n wo 2 q.d q.Q q.P q.o := hI
  have hdn := hI.dn
  have hQl := hI.len
  refine Ex.seq ?_
  refine Ex.regSeq (ExL.pures 1 rfl ?_)
  refine ExL.geq rfl rfl rfl rfl rfl rfl (fun h4 => ?_) (fun h4 => ?_)
  · refine ExL.nil ?_
    refine Ex.cond_t rfl ?_
    refine Ex.skip ?_
    refine Ex.seq ?_
    refine Ex.block ?_
    have hdl : q.d < n := by omega
    rw [show (n : Int) - 1 - q.d = (((n - 1 - q.d) : Nat) : Int) by omega]
    refine Ex.seq ?_
    refine Ex.regSeq (ExL.pures 2 rfl ?_)
    refine ExL.eql rfl rfl rfl rfl rfl rfl (fun h5 => ?_) (fun h5 => ?_)
    · refine ExL.nil ?_
      refine Ex.cond_t rfl ?_
      refine Ex.exit ?_
      refine Ex.region (ExL.pures 1 rfl ?_)
      refine ExL.free (by first | exact fr_sub64 rfl rfl rfl (by omega) | exact fr_sub rfl rfl rfl) rfl rfl rfl ?_
      refine ExL.pures 1 rfl ?_
      refine ExL.nil ?_
      refine Hand.mk ((⟨q.d + 1, q.Q, q.P, q.o⟩ : BSt)) 4 [0, 1, 2, 3] ⟨agB (by rw [btT, if_pos (by omega)]), agI (by first | omega | (dsimp only; omega)), trivial⟩ ⟨rfl, rfl, rfl, rfl, rfl, rfl, trivial⟩ (rfl) rfl (hI.skip hdl (by omega)) (by first | omega | (dsimp only; omega))
    · refine ExL.nil ?_
      refine Ex.cond_f rfl ?_
      refine Ex.skip ?_
      have hwo : ¬ (((n - 1 - q.d) : Nat) : Int) = wo := by omega
      refine Ex.regSeq (ExL.pures 2 rfl ?_)
      refine ExL.free (fr_build (cells := encPl zPl) rfl rfl rfl (by kernel_rfl)) rfl rfl rfl ?_
      refine ExL.pures 2 rfl ?_
      refine ExL.free (by first | exact fr_sub64 rfl rfl rfl (by omega) | exact fr_sub rfl rfl rfl) rfl rfl rfl ?_
      refine ExL.pures 1 rfl ?_
      refine ExL.free (by first | exact fr_sub64 rfl rfl rfl (by omega) | exact fr_sub rfl rfl rfl) rfl rfl rfl ?_
      refine ExL.op rfl (op_ret rfl rfl rfl (c_from zPl (by first | assumption | exact (fun _ => ⟨rfl, rfl⟩) | exact OkPl.none hcand.2) (by first | omega | decide) (by first | omega | decide) _ _ (by omega) _ (by first | omega | exact brk_bd _)) (fun w hw => rd_nil w) rfl rfl (fun x6 hx6 => ?_))
      refine ExL.free (fr_indexAddr (sz := 3) rfl rfl rfl rfl rfl rfl (by omega)) rfl rfl rfl ?_
      refine ExL.op rfl (op_storeRowF (i := 1) rfl rfl rfl rfl rfl rfl rfl rfl (room encPl_len (k := (n - 1 - q.d)) (by omega) (by simp) rfl) (List.cons_ne_nil _ _) rfl (pl_put (i := (n - 1 - q.d)) (⟨zPl.cost + ((n - 1) - ↑(n - 1 - q.d)) * 1 + 0 * 2, zPl.breaks + 0, x6.1, x6.2, ↑(n - 1 - q.d) :: zPl.xs⟩ : VPl) (by omega) (by simp) rfl) ?_)
      refine ExL.nil ?_
      refine Ex.seq ?_
      rw [show (n : Int) - 1 - (((n - 1 - q.d) : Nat) : Int) = (q.d : Int) by omega]
      refine Ex.conv (layEnd (perm_lt (i := 0) (j := 2) rfl rfl rfl)) ?_
      have hst := hI.start hdl (⟨zPl.cost + (q.d : Int) * 1 + 0 * 2, zPl.breaks + 0, x6.1, x6.2, (((n - 1 - q.d) : Nat) : Int) :: zPl.xs⟩ : VPl) rfl hx6
      refine Ex.regSeq (ExL.pures 1 rfl ?_)
      refine ExL.free (by first | exact fr_add64 rfl rfl rfl (by omega) | exact fr_add rfl rfl rfl) rfl rfl rfl ?_
      refine ExL.pures 1 rfl ?_
      refine ExL.nil ?_
      refine Ex.block ?_
      refine Ex.loopK (X := ISt) (fun r => [(10, .int .i64 (((n - q.d + r.m) : Nat) : Int))]) (fun r => [.row (.slice (some ⟨r2, 0, none⟩) n n) 114 3 n (r.Q.flatMap encPl), .pile r.P]) (fun r => II fit n wo 2 q.d r.m r.Q r.P q.o) (fun r => q.d - r.m) ⟨0, q.Q.set (n - 1 - q.d) (⟨zPl.cost + (q.d : Int) * 1 + 0 * 2, zPl.breaks + 0, x6.1, x6.2, (((n - 1 - q.d) : Nat) : Int) :: zPl.xs⟩ : VPl), q.P ++ [rowPl 2 (⟨zPl.cost + (q.d : Int) * 1 + 0 * 2, zPl.breaks + 0, x6.1, x6.2, (((n - 1 - q.d) : Nat) : Int) :: zPl.xs⟩ : VPl)]⟩ [(0, _), (1, _), (4, _), (5, _), (6, _), (7, _), (8, _), (9, _)] [_, _] 4 [1, 0, 2, 3] ⟨agI (by first | omega | (dsimp only; omega)), trivial⟩ ⟨rfl, rfl, rfl, rfl, rfl, rfl, rfl, rfl, trivial⟩ (rfl) rfl hst (fun r hI => ?_)
      have hI : II fit n wo 2 q.d r.m r.Q r.P q.o := hI
      have hmd := hI.mn
      have hRl := hI.len
      refine Ex.seq ?_
      refine Ex.regSeq (ExL.pures 2 rfl ?_)
      refine ExL.lss rfl rfl rfl rfl rfl rfl (fun h7 => ?_) (fun h7 => ?_)
      · refine ExL.nil ?_
        refine Ex.cond_t rfl ?_
        refine Ex.skip ?_
        refine Ex.seq ?_
        refine Ex.block ?_
        refine Ex.seq ?_
        refine Ex.regSeq (ExL.pures 2 rfl ?_)
        refine ExL.eql rfl rfl rfl rfl rfl rfl (fun h8 => ?_) (fun h8 => ?_)
        · refine ExL.nil ?_
          refine Ex.cond_t rfl ?_
          refine Ex.exit ?_
          refine Ex.region (ExL.pures 1 rfl ?_)
          refine ExL.free (by first | exact fr_add64 rfl rfl rfl (by omega) | exact fr_add rfl rfl rfl) rfl rfl rfl ?_
          refine ExL.pures 1 rfl ?_
          refine ExL.nil ?_
          refine Hand.mk ((⟨r.m + 1, r.Q, r.P⟩ : ISt)) 4 [0, 1, 2, 3] ⟨agI (by first | omega | (dsimp only; omega)), trivial⟩ ⟨rfl, rfl, rfl, rfl, rfl, rfl, rfl, rfl, trivial⟩ (rfl) rfl (hI.skip (by omega) (by omega)) (by first | omega | (dsimp only; omega))
        · refine ExL.nil ?_
          refine Ex.cond_f rfl ?_
          refine Ex.skip ?_
          have hcand := hI.cand (by omega)
          have hcb := hI.cbd (by omega)
          obtain ⟨hxl, hbe⟩ := canK_bool hCK (i := (n - 1 - q.d)) (j := (n - q.d + r.m)) (by omega) (by omega) (by omega)
          have hib := hI.ibd
          have hbb := brk_bd (fit (n - 1 - q.d) (n - q.d + r.m))
          refine Ex.drawSeqM rfl ?_
          refine ExD.take (i := 0) rfl (by kernel_rfl) (pureVal_ok rfl) ((List.Sublist.refl _)) rfl rfl rfl ?_
          refine ExD.take (i := 1) rfl (by kernel_rfl) (pureVal_ok rfl) ((List.Sublist.refl _)) rfl rfl rfl ?_
          refine ExD.take (i := 2) rfl (by kernel_rfl) (fr_indexAddr (sz := 3) rfl rfl rfl rfl rfl rfl (by omega)) ((List.Sublist.refl _)) rfl rfl rfl ?_
          refine ExD.take (i := 3) rfl (by kernel_rfl) (fr_loadN rfl rfl rfl rfl rfl (segJ ((n - q.d + r.m)) (Reads.row (i := 0) rfl) encPl_len rfl zPl (by omega) (by omega))) ((List.Sublist.refl _)) rfl rfl rfl ?_
          refine ExD.take (i := 4) rfl (by kernel_rfl) (pureVal_ok rfl) ((List.Sublist.refl _)) rfl rfl rfl ?_
          refine ExD.take (i := 5) rfl (by kernel_rfl) (pureVal_ok rfl) ((List.Sublist.refl _)) rfl rfl rfl ?_
          refine ExD.take (i := 6) rfl (by kernel_rfl) (pureVal_ok rfl) ((List.Sublist.refl _)) rfl rfl rfl ?_
          refine ExD.take (i := 7) rfl (by kernel_rfl) (by first | exact fr_sub64 rfl rfl rfl (by omega) | exact fr_sub rfl rfl rfl) ((List.Sublist.refl _)) rfl rfl rfl ?_
          refine ExD.take (i := 8) rfl (by kernel_rfl) (by first | exact fr_sub64 rfl rfl rfl (by omega) | exact fr_sub rfl rfl rfl) ((List.Sublist.refl _)) rfl rfl rfl ?_
          refine ExD.take (i := 9) rfl (by kernel_rfl) (pureVal_ok rfl) ((List.Sublist.refl _)) rfl rfl rfl ?_
          refine ExD.take (i := 10) rfl (by kernel_rfl) (pureVal_ok rfl) ((List.Sublist.refl _)) rfl rfl rfl ?_
          refine ExD.take (i := 11) rfl (by kernel_rfl) (pureVal_ok rfl) ((List.Sublist.refl _)) rfl rfl rfl ?_
          refine ExD.take (i := 12) rfl (by kernel_rfl) (fr_load rfl rfl rfl rfl (CellO.at 2 (Reads.old hd) rfl)) ((List.Sublist.refl _)) rfl rfl rfl ?_
          refine ExD.take (i := 13) rfl (by kernel_rfl) (pureVal_ok rfl) ((List.Sublist.refl _)) rfl rfl rfl ?_
          refine ExD.take (i := 14) rfl (by kernel_rfl) (fr_indexAddrE (sz := 1) hKl (Reads.old hc) encX_len rfl rfl rfl rfl rfl rfl (by omega)) ((List.Sublist.refl _)) rfl rfl rfl ?_
          refine ExD.take (i := 15) rfl (by kernel_rfl) (fr_load rfl rfl rfl rfl (cellJ (i := ↑(n - 1 - q.d)) ((n - 1 - q.d)) (Reads.old hc) encX_len zX 0 rfl (by omega) (by omega) rfl)) ((List.Sublist.refl _)) rfl rfl rfl ?_
          refine ExD.take (i := 16) rfl (by kernel_rfl) (pureVal_ok rfl) ((List.Sublist.refl _)) rfl rfl rfl ?_
          refine ExD.take (i := 17) rfl (by kernel_rfl) (fr_indexAddrF (Reads.old (hcr (n - 1 - q.d) (by omega))) eB_len rfl rfl rfl rfl rfl rfl (by omega)) ((List.Sublist.refl _)) rfl rfl rfl ?_
          refine ExD.take (i := 18) rfl (by kernel_rfl) (fr_load rfl rfl rfl rfl (cellJ (i := ↑(n - q.d + r.m)) ((n - q.d + r.m)) (Reads.old (hcr (n - 1 - q.d) (by omega))) eB_len false 0 rfl (by omega) (by omega) rfl)) ((List.Sublist.refl _)) rfl rfl rfl ?_
          refine ExDF.start 21 rfl (Alc.of rfl rfl rfl rfl rfl) ?_
          refine ExDF.step (i := 19) rfl rfl (by kernel_rfl) (by kernel_rfl) rfl rfl rfl (fun _ => rfl) rfl (List.Sublist.refl _) (Alc.of rfl rfl rfl rfl rfl) (fun K' hK => op_ret rfl rfl rfl (c_oneUnless _) (fun _ _ => trivial) rfl rfl (fun x11 hx11 => hK x11 hx11)) (fun b9 K' hK => op_ret rfl rfl rfl (c_oneUnless _) (fun _ _ => trivial) rfl rfl (fun x10 hx10 => hK x10 hx10)) (fun x11 hx11 => ?_)
          refine ExDF.step (i := 20) rfl rfl (by kernel_rfl) (by kernel_rfl) rfl rfl rfl (fun _ => rfl) rfl (List.Sublist.refl _) (Alc.of rfl rfl rfl rfl rfl) (fun K' hK => op_ret rfl rfl rfl (c_from (r.Q.getD (n - q.d + r.m) zPl) (by first | assumption | exact (fun _ => ⟨rfl, rfl⟩) | exact OkPl.none hcand.2) (by first | omega | decide) (by first | omega | decide) _ _ (by omega) _ (by first | omega | exact brk_bd _)) (fun w hw => Reads.get (readsPl (i := 1) rfl hcand.2) w hw) rfl rfl (fun x14 hx14 => hK x14 hx14)) (fun b12 K' hK => op_ret rfl rfl rfl (c_from (r.Q.getD (n - q.d + r.m) zPl) (by first | assumption | exact (fun _ => ⟨rfl, rfl⟩) | exact OkPl.none hcand.2) (by first | omega | decide) (by first | omega | decide) _ _ (by omega) _ (by first | omega | exact brk_bd _)) (fun w hw => Reads.get (readsPl (i := 2) rfl hcand.2) w hw) rfl rfl (fun x13 hx13 => hK x13 hx13)) (fun x14 hx14 => ?_)
          refine ExDF.fin rfl (by kernel_rfl) rfl (List.Sublist.cons _ (List.Sublist.refl _)) (Alc.of rfl rfl rfl rfl rfl) (fun b15 => ?_)
          refine ExD.last (i := 22) rfl (by kernel_rfl) (by kernel_rfl) rfl (op_storeC (i := 0) rfl rfl rfl rfl rfl rfl rfl rfl rfl rfl ?_)
          refine ExD.done (by kernel_rfl) ?_
          rw [show (((n - q.d + r.m) : Nat) : Int) - (((n - 1 - q.d) : Nat) : Int) - 1 = (r.m : Int) by omega, hbe]
          refine Ex.conv (layEnd (perm_lt (i := 1) (j := 3) rfl rfl rfl)) ?_
          have hnok : OkPl 2 (r.P ++ [rowPl 2 (⟨(r.Q.getD (n - q.d + r.m) zPl).cost + (r.m : Int) * 1 + brk (fit (n - 1 - q.d) (n - q.d + r.m)) * 2, (r.Q.getD (n - q.d + r.m) zPl).breaks + brk (fit (n - 1 - q.d) (n - q.d + r.m)), x14.1, x14.2, (((n - 1 - q.d) : Nat) : Int) :: (r.Q.getD (n - q.d + r.m) zPl).xs⟩ : VPl)]) (⟨(r.Q.getD (n - q.d + r.m) zPl).cost + (r.m : Int) * 1 + brk (fit (n - 1 - q.d) (n - q.d + r.m)) * 2, (r.Q.getD (n - q.d + r.m) zPl).breaks + brk (fit (n - 1 - q.d) (n - q.d + r.m)), x14.1, x14.2, (((n - 1 - q.d) : Nat) : Int) :: (r.Q.getD (n - q.d + r.m) zPl).xs⟩ : VPl) := .inl ⟨by simp, hx14⟩
          have hcok := hI.cok.more (rowPl 2 (⟨(r.Q.getD (n - q.d + r.m) zPl).cost + (r.m : Int) * 1 + brk (fit (n - 1 - q.d) (n - q.d + r.m)) * 2, (r.Q.getD (n - q.d + r.m) zPl).breaks + brk (fit (n - 1 - q.d) (n - q.d + r.m)), x14.1, x14.2, (((n - 1 - q.d) : Nat) : Int) :: (r.Q.getD (n - q.d + r.m) zPl).xs⟩ : VPl))
          have hnt : ((⟨(r.Q.getD (n - q.d + r.m) zPl).cost + (r.m : Int) * 1 + brk (fit (n - 1 - q.d) (n - q.d + r.m)) * 2, (r.Q.getD (n - q.d + r.m) zPl).breaks + brk (fit (n - 1 - q.d) (n - q.d + r.m)), x14.1, x14.2, (((n - 1 - q.d) : Nat) : Int) :: (r.Q.getD (n - q.d + r.m) zPl).xs⟩ : VPl)).t = candT fit n q.d (tl fit n wo q.d) r.m := by rw [candT, ← hcand.1]; rfl
          refine Ex.drawSeqM rfl ?_
          refine ExD.take (i := 0) rfl (by kernel_rfl) (fr_loadN rfl rfl rfl rfl rfl (SegO.whole (i := 1) rfl)) ((List.Sublist.refl _)) rfl rfl rfl ?_
          refine ExD.take (i := 1) rfl (by kernel_rfl) (pureVal_ok rfl) ((List.Sublist.refl _)) rfl rfl rfl ?_
          refine ExD.take (i := 2) rfl (by kernel_rfl) (pureVal_ok rfl) ((List.Sublist.refl _)) rfl rfl rfl ?_
          refine ExD.take (i := 3) rfl (by kernel_rfl) (fr_indexAddr (sz := 3) rfl rfl rfl rfl rfl rfl (by omega)) ((List.Sublist.refl _)) rfl rfl rfl ?_
          refine ExD.take (i := 4) rfl (by kernel_rfl) (fr_loadN rfl rfl rfl rfl rfl (segJ ((n - 1 - q.d)) (Reads.row (i := 2) rfl) encPl_len rfl zPl (by omega) (by omega))) ((List.Sublist.refl _)) rfl rfl rfl ?_
          refine ExD.op (i := 5) rfl (by kernel_rfl) rfl (op_ret rfl rfl rfl (c_less (⟨(r.Q.getD (n - q.d + r.m) zPl).cost + (r.m : Int) * 1 + brk (fit (n - 1 - q.d) (n - q.d + r.m)) * 2, (r.Q.getD (n - q.d + r.m) zPl).breaks + brk (fit (n - 1 - q.d) (n - q.d + r.m)), x14.1, x14.2, (((n - 1 - q.d) : Nat) : Int) :: (r.Q.getD (n - q.d + r.m) zPl).xs⟩ : VPl) (r.Q.getD (n - 1 - q.d) zPl) (by first | omega | (simp only [List.length_cons]; omega) | (simp only [addP]; omega)) (by first | omega | (simp only [List.length_cons]; omega))) (fun w hw => ⟨Reads.get (readsPl (i := 0) rfl hnok) w hw, Reads.get (readsPl (i := 0) rfl hcok) w hw⟩) rfl rfl (fun x16 hx16 => ⟨(List.Sublist.refl _), ?_⟩))
          refine ExD.done (by kernel_rfl) ?_
          refine Ex.cond rfl (fun hb17 => ?_) (fun hb17 => ?_)
          · refine Ex.region (ExL.pures 2 rfl ?_)
            refine ExL.free (fr_loadN rfl rfl rfl rfl rfl (SegO.whole (i := 1) rfl)) rfl rfl rfl ?_
            refine ExL.free (fr_indexAddr (sz := 3) rfl rfl rfl rfl rfl rfl (by omega)) rfl rfl rfl ?_
            refine ExL.op rfl (op_storeRowF (i := 2) rfl rfl rfl rfl rfl rfl rfl rfl (room encPl_len (k := (n - 1 - q.d)) (by omega) (by simp) rfl) (List.cons_ne_nil _ _) rfl (pl_put (i := (n - 1 - q.d)) (⟨(r.Q.getD (n - q.d + r.m) zPl).cost + (r.m : Int) * 1 + brk (fit (n - 1 - q.d) (n - q.d + r.m)) * 2, (r.Q.getD (n - q.d + r.m) zPl).breaks + brk (fit (n - 1 - q.d) (n - q.d + r.m)), x14.1, x14.2, (((n - 1 - q.d) : Nat) : Int) :: (r.Q.getD (n - q.d + r.m) zPl).xs⟩ : VPl) (by omega) (by simp) rfl) ?_)
            refine ExL.nil ?_
            refine Ex.region (ExL.pures 1 rfl ?_)
            refine ExL.free (by first | exact fr_add64 rfl rfl rfl (by omega) | exact fr_add rfl rfl rfl) rfl rfl rfl ?_
            refine ExL.pures 1 rfl ?_
            refine ExL.nil ?_
            refine Hand.mk ((⟨r.m + 1, r.Q.set (n - 1 - q.d) (⟨(r.Q.getD (n - q.d + r.m) zPl).cost + (r.m : Int) * 1 + brk (fit (n - 1 - q.d) (n - q.d + r.m)) * 2, (r.Q.getD (n - q.d + r.m) zPl).breaks + brk (fit (n - 1 - q.d) (n - q.d + r.m)), x14.1, x14.2, (((n - 1 - q.d) : Nat) : Int) :: (r.Q.getD (n - q.d + r.m) zPl).xs⟩ : VPl), r.P ++ [rowPl 2 (⟨(r.Q.getD (n - q.d + r.m) zPl).cost + (r.m : Int) * 1 + brk (fit (n - 1 - q.d) (n - q.d + r.m)) * 2, (r.Q.getD (n - q.d + r.m) zPl).breaks + brk (fit (n - 1 - q.d) (n - q.d + r.m)), x14.1, x14.2, (((n - 1 - q.d) : Nat) : Int) :: (r.Q.getD (n - q.d + r.m) zPl).xs⟩ : VPl)]⟩ : ISt)) 5 [2, 0, 3, 4] ⟨agI (by first | omega | (dsimp only; omega)), trivial⟩ ⟨rfl, rfl, rfl, rfl, rfl, rfl, rfl, rfl, trivial⟩ (rfl) rfl (hI.take (by omega) (by omega) (⟨(r.Q.getD (n - q.d + r.m) zPl).cost + (r.m : Int) * 1 + brk (fit (n - 1 - q.d) (n - q.d + r.m)) * 2, (r.Q.getD (n - q.d + r.m) zPl).breaks + brk (fit (n - 1 - q.d) (n - q.d + r.m)), x14.1, x14.2, (((n - 1 - q.d) : Nat) : Int) :: (r.Q.getD (n - q.d + r.m) zPl).xs⟩ : VPl) hnt hx14 (by assumption)) (by first | omega | (dsimp only; omega))
          · refine Ex.skip ?_
            refine Ex.region (ExL.pures 1 rfl ?_)
            refine ExL.free (by first | exact fr_add64 rfl rfl rfl (by omega) | exact fr_add rfl rfl rfl) rfl rfl rfl ?_
            refine ExL.pures 1 rfl ?_
            refine ExL.nil ?_
            refine Hand.mk ((⟨r.m + 1, r.Q, r.P ++ [rowPl 2 (⟨(r.Q.getD (n - q.d + r.m) zPl).cost + (r.m : Int) * 1 + brk (fit (n - 1 - q.d) (n - q.d + r.m)) * 2, (r.Q.getD (n - q.d + r.m) zPl).breaks + brk (fit (n - 1 - q.d) (n - q.d + r.m)), x14.1, x14.2, (((n - 1 - q.d) : Nat) : Int) :: (r.Q.getD (n - q.d + r.m) zPl).xs⟩ : VPl)]⟩ : ISt)) 5 [2, 0, 3, 4] ⟨agI (by first | omega | (dsimp only; omega)), trivial⟩ ⟨rfl, rfl, rfl, rfl, rfl, rfl, rfl, rfl, trivial⟩ (rfl) rfl (hI.keep (by omega) (by omega) (⟨(r.Q.getD (n - q.d + r.m) zPl).cost + (r.m : Int) * 1 + brk (fit (n - 1 - q.d) (n - q.d + r.m)) * 2, (r.Q.getD (n - q.d + r.m) zPl).breaks + brk (fit (n - 1 - q.d) (n - q.d + r.m)), x14.1, x14.2, (((n - 1 - q.d) : Nat) : Int) :: (r.Q.getD (n - q.d + r.m) zPl).xs⟩ : VPl) hnt (by assumption)) (by first | omega | (dsimp only; omega))
      · refine ExL.nil ?_
        refine Ex.cond_f rfl ?_
        refine Ex.exit ?_
        have hmq : r.m = q.d := by omega
        rw [hmq] at hI
        have hcok := hI.cok
        have hib := hI.ibd
        have hob := hI.obd
        refine Ex.regSeq (ExL.pures 2 rfl ?_)
        refine ExL.free (fr_indexAddr (sz := 3) rfl rfl rfl rfl rfl rfl (by omega)) rfl rfl rfl ?_
        refine ExL.free (fr_loadN rfl rfl rfl rfl rfl (segJ ((n - 1 - q.d)) (Reads.row (i := 0) rfl) encPl_len rfl zPl (by omega) (by omega))) rfl rfl rfl ?_
        refine ExL.op rfl (op_alloc rfl rfl rfl rfl rfl (fun b18 => ?_))
        refine ExL.op rfl (op_storeC (i := 0) rfl rfl rfl rfl rfl rfl rfl rfl rfl rfl ?_)
        refine ExL.nil ?_
        refine Ex.regSeq (ExL.pures 1 rfl ?_)
        refine ExL.free (fr_load rfl rfl rfl rfl (CellO.blk (i := 0) rfl rfl)) rfl rfl rfl ?_
        refine ExL.pures 1 rfl ?_
        refine ExL.free (by first | exact fr_mul64 rfl rfl rfl (by omega) | exact fr_mul rfl rfl rfl) rfl rfl rfl ?_
        refine ExL.free (by first | exact fr_add64 rfl rfl rfl (by omega) | exact fr_add rfl rfl rfl) rfl rfl rfl ?_
        refine ExL.pures 1 rfl ?_
        refine ExL.op rfl (op_storeC (i := 0) rfl rfl rfl rfl rfl rfl rfl rfl rfl rfl ?_)
        refine ExL.nil ?_
        refine Ex.regSeq (ExL.pures 3 rfl ?_)
        refine ExL.bool (d := 93) rfl (fun hb19 => ?_) (fun hb19 => ?_)
        · replace hb19 := nb_t hb19
          refine ExL.pures 4 rfl ?_
          refine ExL.nil ?_
          refine Ex.cond_t rfl ?_
          refine Ex.region (ExL.pures 0 rfl ?_)
          refine ExL.free (fr_loadN rfl rfl rfl rfl rfl (SegO.whole (i := 0) rfl)) rfl rfl rfl ?_
          refine ExL.op rfl (op_storeC (i := 3) rfl rfl rfl rfl rfl rfl rfl rfl rfl rfl ?_)
          refine ExL.pures 1 rfl ?_
          refine ExL.nil ?_
          refine Ex.region (ExL.pures 1 rfl ?_)
          refine ExL.free (by first | exact fr_sub64 rfl rfl rfl (by omega) | exact fr_sub rfl rfl rfl) rfl rfl rfl ?_
          refine ExL.pures 1 rfl ?_
          refine ExL.nil ?_
          obtain ⟨hB1, hB2⟩ := hI.new hwo (by first | exact .inl (by assumption) | exact .inr (by assumption))
          refine Hand.mk ((⟨q.d + 1, r.Q, r.P, addP (r.Q.getD (n - 1 - q.d) zPl) (((n - 1 - q.d) : Nat) : Int)⟩ : BSt)) 5 [1, 2, 3, 4] ⟨agB hB2.symm, agI (by first | omega | (dsimp only; omega)), trivial⟩ ⟨rfl, rfl, rfl, rfl, rfl, rfl, trivial⟩ (rfl) rfl (hB1) (by first | omega | (dsimp only; omega))
        · replace hb19 := nb_f hb19
          refine ExL.free (fr_loadN rfl rfl rfl rfl rfl (SegO.whole (i := 0) rfl)) rfl rfl rfl ?_
          refine ExL.free (fr_loadN rfl rfl rfl rfl rfl (SegO.whole (i := 3) rfl)) rfl rfl rfl ?_
          refine ExL.op rfl (op_ret rfl rfl rfl (c_less (addP (r.Q.getD (n - 1 - q.d) zPl) (((n - 1 - q.d) : Nat) : Int)) q.o (by first | omega | (simp only [List.length_cons]; omega) | (simp only [addP]; omega)) (by first | omega | (simp only [List.length_cons]; omega))) (fun w hw => ⟨Reads.get (readsPl (i := 2) rfl (hcok.add _)) w hw, Reads.get (readsPl (i := 2) rfl hI.ok) w hw⟩) rfl rfl (fun x20 hx20 => ?_))
          refine ExL.pures 1 rfl ?_
          refine ExL.nil ?_
          refine Ex.cond rfl (fun hb21 => ?_) (fun hb21 => ?_)
          · refine Ex.region (ExL.pures 0 rfl ?_)
            refine ExL.free (fr_loadN rfl rfl rfl rfl rfl (SegO.whole (i := 0) rfl)) rfl rfl rfl ?_
            refine ExL.op rfl (op_storeC (i := 3) rfl rfl rfl rfl rfl rfl rfl rfl rfl rfl ?_)
            refine ExL.pures 1 rfl ?_
            refine ExL.nil ?_
            refine Ex.region (ExL.pures 1 rfl ?_)
            refine ExL.free (by first | exact fr_sub64 rfl rfl rfl (by omega) | exact fr_sub rfl rfl rfl) rfl rfl rfl ?_
            refine ExL.pures 1 rfl ?_
            refine ExL.nil ?_
            obtain ⟨hB1, hB2⟩ := hI.new hwo (by first | exact .inl (by assumption) | exact .inr (by assumption))
            refine Hand.mk ((⟨q.d + 1, r.Q, r.P, addP (r.Q.getD (n - 1 - q.d) zPl) (((n - 1 - q.d) : Nat) : Int)⟩ : BSt)) 5 [1, 2, 3, 4] ⟨agB hB2.symm, agI (by first | omega | (dsimp only; omega)), trivial⟩ ⟨rfl, rfl, rfl, rfl, rfl, rfl, trivial⟩ (rfl) rfl (hB1) (by first | omega | (dsimp only; omega))
          · refine Ex.skip ?_
            refine Ex.region (ExL.pures 1 rfl ?_)
            refine ExL.free (by first | exact fr_sub64 rfl rfl rfl (by omega) | exact fr_sub rfl rfl rfl) rfl rfl rfl ?_
            refine ExL.pures 1 rfl ?_
            refine ExL.nil ?_
            obtain ⟨hB1, hB2⟩ := hI.old hwo (by assumption) (by assumption)
            refine Hand.mk ((⟨q.d + 1, r.Q, r.P, q.o⟩ : BSt)) 5 [1, 2, 3, 4] ⟨agB (by rw [hB2]; assumption), agI (by first | omega | (dsimp only; omega)), trivial⟩ ⟨rfl, rfl, rfl, rfl, rfl, rfl, trivial⟩ (rfl) rfl (hB1) (by first | omega | (dsimp only; omega))
  · refine ExL.nil ?_
    refine Ex.cond_f rfl ?_
    refine Ex.exit ?_
    have hdn2 : q.d = n := by omega
    have hout := hI.out
    rw [hdn2] at hout
    refine Ex.regSeq (ExL.pures 0 rfl ?_)
    refine ExL.free (fr_loadN rfl rfl rfl rfl rfl (SegO.whole (i := 2) rfl)) rfl rfl rfl ?_
    refine ExL.op rfl (op_storeC (i := 3) rfl rfl rfl rfl rfl rfl rfl rfl rfl rfl ?_)
    refine ExL.nil ?_
    refine Ex.ret ?_
    refine RetQ.mk (q.o, q.P) rfl (.cell rfl (.many rfl rfl rfl (SegO.whole (i := 3) rfl)) .nil) (rfl) [1] (rfl) rfl (⟨hout, hI.ok⟩)
end Go.Proofs.Ytepahnikcojepaa
