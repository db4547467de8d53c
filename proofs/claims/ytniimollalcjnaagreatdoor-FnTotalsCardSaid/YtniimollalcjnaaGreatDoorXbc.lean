/- Several texts, one behind the other. -/
import Derived.Test.YtniimollalcjnaaGreatDoorProg
import Derived.Test.YtniimollalcjnaaGreatDoorXaa
import Derived.Test.YtniimollalcjnaaGreatDoorXab
import Derived.Test.YtniimollalcjnaaGreatDoorXac
import Derived.Test.YtniimollalcjnaaGreatDoorXba
import Derived.Test.YtniimollalcjnaaGreatDoorXbb
/- What these functions of the program hand back, each proved by walking its operations. -/
set_option linter.unusedVariables false
set_option linter.unusedSimpArgs false
set_option maxRecDepth 4000
namespace Go.Proofs.YtniimollalcjnaaGreatDoor
open Go Go.Sx Go.RowKit Go.W Go.Proofs
attribute [local irreducible] Ex ExL ExD Op1 Free RetQ MutQ Reads CellO SegO LoadsAs
theorem e_78 : Enters Tryz.prog 78 := Enters.of Tryz.func78 rfl
set_option maxHeartbeats 1600000 in
theorem c_symStep (N : Nat) (l : List VP) (A : Addr) (n c : Nat) (hn : l.length = n ∧ n ≤ 1000) (a m b : Nat) (hab : a < m ∧ m < b ∧ b ≤ n) (hu : Up l a m) (hv : Up l m b) (ih : ∀ (l : List VP) (a m b : Nat) (a_ m_ b_ : Int), l.length = n → a < m → m < b → b ≤ n → b - a < N → Up l a m → Up l m b → a_ = a → m_ = m → b_ = b → Mut Tryz.prog 78 [.slice (some A) n c, .int .i64 a_, .int .i64 m_, .int .i64 b_, .func (.func 44) #[] #[]] [.row (.slice (some A) n c) 39 2 n (l.flatMap encP)] (fun base w0 F => True) (fun x : List VP => .tuple #[]) (fun x => [.row (.slice (some A) n c) 39 2 n (x.flatMap encP)]) (fun x => Mv a b l x ∧ Up x a b)) (hN : b - a = N) : Mut Tryz.prog 78 [.slice (some A) n c, .int .i64 (a : Int), .int .i64 (m : Int), .int .i64 (b : Int), .func (.func 44) #[] #[]] [.row (.slice (some A) n c) 39 2 n (l.flatMap encP)] (fun base w0 F => True) (fun x : List VP => .tuple #[]) (fun x => [.row (.slice (some A) n c) 39 2 n (x.flatMap encP)]) (fun x => Mv a b l x ∧ Up x a b) := by
  refine Mut.of e_78 Tryz.func78 rfl Tryz.ntmps78 rfl rfl (fun base w0 F hfr => ?_)
  obtain ⟨hn1, hn2⟩ := hn
  obtain ⟨hab1, hab2, hab3⟩ := hab
  have hm0 : maxLen = 9223372036854775807 := rfl
  refine Ex.seq ?_
  refine Ex.regSeq (ExL.pures 2 rfl ?_)
  refine ExL.free (by first | exact fr_sub64 rfl rfl rfl (by omega) | exact fr_sub rfl rfl rfl) rfl rfl rfl ?_
  refine ExL.eql rfl rfl rfl rfl rfl rfl (fun h1 => ?_) (fun h1 => ?_)
  · refine ExL.nil ?_
    refine Ex.cond_t rfl ?_
    refine Ex.regSeq (ExL.pures 2 rfl ?_)
    refine ExL.nil ?_
    refine Ex.regSeq (ExL.pures 2 rfl ?_)
    refine ExL.nil ?_
    refine Ex.seq ?_
    refine Ex.block ?_
    refine Ex.loopK (X := Nat × Nat) (fun q => [(10, .int .i64 (q.1 : Int)), (11, .int .i64 (q.2 : Int))]) (fun q => []) (fun q => One l m b a q.1 q.2) (fun q => q.2 - q.1) (m, b) [(0, _), (1, _), (2, _), (3, _), (4, _)] (_ :: F) 1 [0] ⟨agI (by first | rfl | omega | (dsimp only; omega) | (push_cast; omega)), agI (by first | rfl | omega | (dsimp only; omega) | (push_cast; omega)), trivial⟩ ⟨rfl, rfl, rfl, rfl, rfl, trivial⟩ (rfl) rfl (One.zero (by omega)) (fun q hI => ?_)
    have hI : One l m b a q.1 q.2 := hI
    have h_1 := hI.mi
    have h_2 := hI.ij
    have h_3 := hI.jb
    refine Ex.seq ?_
    refine Ex.regSeq (ExL.pures 2 rfl ?_)
    refine ExL.lss rfl rfl rfl rfl rfl rfl (fun h2 => ?_) (fun h2 => ?_)
    · refine ExL.nil ?_
      refine Ex.cond_t rfl ?_
      refine Ex.skip ?_
      refine Ex.block ?_
      refine Ex.regSeq (ExL.pures 2 rfl ?_)
      refine ExL.free (by first | exact fr_add64 rfl rfl rfl (by omega) | exact fr_add rfl rfl rfl) rfl rfl rfl ?_
      refine ExL.free (by first | exact fr_conv_u64 rfl rfl rfl rfl (by omega) | exact fr_conv rfl rfl rfl rfl) rfl rfl rfl ?_
      refine ExL.free (fr_shr1 rfl rfl rfl) rfl rfl rfl ?_
      refine ExL.free (by first | exact fr_conv64 rfl rfl rfl rfl (by omega) | exact fr_conv rfl rfl rfl rfl) rfl rfl rfl ?_
      refine ExL.pures 1 rfl ?_
      refine ExL.nil ?_
      obtain ⟨zz, hzz⟩ : ∃ z : Nat, ((q.1 : Int) + (q.2 : Int)) / 2 = (z : Int) := ⟨(q.1 + q.2) / 2, by omega⟩
      rw [hzz]
      have hc := c3n (l.getD zz zP).a (l.getD a zP).a
      refine Ex.drawSeqM rfl ?_
      refine ExD.take (i := 0) rfl (by kernel_rfl) (pureVal_ok rfl) ((List.Sublist.refl _)) rfl rfl rfl ?_
      refine ExD.take (i := 1) rfl (by kernel_rfl) (pureVal_ok rfl) ((List.Sublist.refl _)) rfl rfl rfl ?_
      refine ExD.take (i := 2) rfl (by kernel_rfl) (pureVal_ok rfl) ((List.Sublist.refl _)) rfl rfl rfl ?_
      refine ExD.take (i := 3) rfl (by kernel_rfl) (fr_indexAddr (sz := 2) rfl rfl rfl rfl rfl rfl (by omega)) ((List.Sublist.refl _)) rfl rfl rfl ?_
      refine ExD.take (i := 4) rfl (by kernel_rfl) (fr_loadN rfl rfl rfl rfl rfl (segJ (zz) (Reads.row (i := 0) rfl) encP_len rfl zP (by omega) (by omega))) ((List.Sublist.refl _)) rfl rfl rfl ?_
      refine ExD.take (i := 5) rfl (by kernel_rfl) (pureVal_ok rfl) ((List.Sublist.refl _)) rfl rfl rfl ?_
      refine ExD.take (i := 6) rfl (by kernel_rfl) (pureVal_ok rfl) ((List.Sublist.refl _)) rfl rfl rfl ?_
      refine ExD.take (i := 7) rfl (by kernel_rfl) (fr_indexAddr (sz := 2) rfl rfl rfl rfl rfl rfl (by omega)) ((List.Sublist.refl _)) rfl rfl rfl ?_
      refine ExD.take (i := 8) rfl (by kernel_rfl) (fr_loadN rfl rfl rfl rfl rfl (segJ (a) (Reads.row (i := 0) rfl) encP_len rfl zP (by omega) (by omega))) ((List.Sublist.refl _)) rfl rfl rfl ?_
      refine ExD.op (i := 9) rfl (by kernel_rfl) rfl (op_ret rfl rfl rfl (c_mcmp (l.getD zz zP) (l.getD a zP)) (fun _ _ => trivial) rfl rfl (fun x3 hx3 => ⟨(List.Sublist.refl _), ?_⟩))
      refine ExD.cmp_lss (i := 10) rfl (by kernel_rfl) rfl rfl rfl ((List.Sublist.refl _)) rfl rfl rfl (fun h4 => ?_) (fun h4 => ?_)
      · refine ExD.done (by kernel_rfl) ?_
        refine Ex.cond_t rfl ?_
        refine Ex.region (ExL.pures 1 rfl ?_)
        refine ExL.free (by first | exact fr_add64 rfl rfl rfl (by omega) | exact fr_add rfl rfl rfl) rfl rfl rfl ?_
        refine ExL.pures 1 rfl ?_
        refine ExL.nil ?_
        refine Hand.mk ((zz + 1, q.2)) 1 [0] ⟨agI (by first | rfl | omega | (dsimp only; omega) | (push_cast; omega)), agI (by first | rfl | omega | (dsimp only; omega) | (push_cast; omega)), trivial⟩ ⟨rfl, rfl, rfl, rfl, rfl, trivial⟩ (rfl) rfl ((hI.up (by omega) (by omega) (by omega))) ((by first | omega | (dsimp only; omega)))
      · refine ExD.done (by kernel_rfl) ?_
        refine Ex.cond_f rfl ?_
        refine Ex.region (ExL.pures 2 rfl ?_)
        refine ExL.nil ?_
        refine Hand.mk ((q.1, zz)) 1 [0] ⟨agI (by first | rfl | omega | (dsimp only; omega) | (push_cast; omega)), agI (by first | rfl | omega | (dsimp only; omega) | (push_cast; omega)), trivial⟩ ⟨rfl, rfl, rfl, rfl, rfl, trivial⟩ (rfl) rfl ((hI.down (h := zz) (by omega) (by omega) (by omega))) ((by first | omega | (dsimp only; omega)))
    · refine ExL.nil ?_
      refine Ex.cond_f rfl ?_
      refine Ex.exit ?_
      have hO : One l m b a q.1 q.1 := by rw [show One l m b a q.1 q.1 = One l m b a q.1 q.2 from congrArg _ (by omega)]; exact hI
      refine Ex.seq ?_
      refine Ex.regSeq (ExL.pures 2 rfl ?_)
      refine ExL.nil ?_
      refine Ex.block ?_
      refine Ex.loopK (X := Nat × List VP) (fun r => [(13, .int .i64 (r.1 : Int))]) (fun r => [.row (.slice (some A) n c) 39 2 n (r.2.flatMap encP)]) (fun r => Car l a q.1 r.1 r.2) (fun r => n - r.1) (a, l) [(0, _), (1, _), (2, _), (3, _), (4, _), (10, _)] (F) 1 [0] ⟨agI (by first | rfl | omega | (dsimp only; omega) | (push_cast; omega)), trivial⟩ ⟨rfl, rfl, rfl, rfl, rfl, rfl, trivial⟩ (rfl) rfl (Car.zero (by omega)) (fun r hI => ?_)
      have hI : Car l a q.1 r.1 r.2 := hI
      have hlr := hI.mv.same.len
      have h_4 := hI.ak
      have h_5 := hI.ki
      refine Ex.seq ?_
      refine Ex.regSeq (ExL.pures 2 rfl ?_)
      refine ExL.free (by first | exact fr_sub64 rfl rfl rfl (by omega) | exact fr_sub rfl rfl rfl) rfl rfl rfl ?_
      refine ExL.lss rfl rfl rfl rfl rfl rfl (fun h5 => ?_) (fun h5 => ?_)
      · refine ExL.nil ?_
        refine Ex.cond_t rfl ?_
        refine Ex.skip ?_
        refine Ex.seq ?_
        refine Ex.block ?_
        have hlt : (l.getD (r.1 + 1) zP).a < (l.getD a zP).a := by rcases hO.lo with g | g; (· omega); (· have := hv.le (i := r.1 + 1) (j := q.1 - 1) (by omega) (by omega) (by omega); omega)
        refine Ex.drawI [] rfl rfl ?_
        refine ExD.take (i := 0) rfl (by kernel_rfl) (pureVal_ok rfl) ((List.nil_sublist _)) rfl rfl rfl ?_
        refine ExD.take (i := 1) rfl (by kernel_rfl) (pureVal_ok rfl) ((List.nil_sublist _)) rfl rfl rfl ?_
        refine ExD.take (i := 2) rfl (by kernel_rfl) (pureVal_ok rfl) ((List.nil_sublist _)) rfl rfl rfl ?_
        refine ExD.take (i := 3) rfl (by kernel_rfl) (pureVal_ok rfl) ((List.nil_sublist _)) rfl rfl rfl ?_
        refine ExD.take (i := 4) rfl (by kernel_rfl) (by first | exact fr_add64 rfl rfl rfl (by omega) | exact fr_add rfl rfl rfl) ((List.nil_sublist _)) rfl rfl rfl ?_
        refine ExD.take (i := 5) rfl (by kernel_rfl) (pureVal_ok rfl) ((List.nil_sublist _)) rfl rfl rfl ?_
        refine ExD.take (i := 6) rfl (by kernel_rfl) (pureVal_ok rfl) ((List.nil_sublist _)) rfl rfl rfl ?_
        refine ExD.take (i := 7) rfl (by kernel_rfl) (by first | exact fr_add64 rfl rfl rfl (by omega) | exact fr_add rfl rfl rfl) ((List.nil_sublist _)) rfl rfl rfl ?_
        refine ExD.take (i := 8) rfl (by kernel_rfl) (fr_indexAddr (sz := 2) rfl rfl rfl rfl rfl rfl (by omega)) ((List.nil_sublist _)) rfl rfl rfl ?_
        refine ExD.take (i := 10) rfl (by kernel_rfl) (pureVal_ok rfl) ((List.nil_sublist _)) rfl rfl rfl ?_
        refine ExD.take (i := 11) rfl (by kernel_rfl) (pureVal_ok rfl) ((List.nil_sublist _)) rfl rfl rfl ?_
        refine ExD.take (i := 12) rfl (by kernel_rfl) (fr_indexAddr (sz := 2) rfl rfl rfl rfl rfl rfl (by omega)) ((List.nil_sublist _)) rfl rfl rfl ?_
        refine ExD.two (i := 9) (j := 13) rfl rfl (by kernel_rfl) (by kernel_rfl) (by kernel_rfl) rfl (List.nil_sublist _) rfl rfl rfl rfl rfl rfl rfl rfl rfl (fr_loadN rfl rfl rfl rfl rfl (segJ ((r.1 + 1)) (Reads.row (i := 0) rfl) encP_len rfl zP (by omega) (by omega))) (fr_loadN rfl rfl rfl rfl rfl (segJ (r.1) (Reads.row (i := 0) rfl) encP_len rfl zP (by omega) (by omega))) (fr_loadN rfl rfl rfl rfl rfl (segJ ((r.1 + 1)) (Reads.row (i := 0) rfl) encP_len rfl zP (by omega) (by omega))) (fr_loadN rfl rfl rfl rfl rfl (segJ (r.1) (Reads.row (i := 0) rfl) encP_len rfl zP (by omega) (by omega))) ?_
        refine ExD.take (i := 14) rfl (by kernel_rfl) (fr_indexAddr (sz := 2) rfl rfl rfl rfl rfl rfl (by omega)) ((List.nil_sublist _)) rfl rfl rfl ?_
        refine ExD.op (i := 15) rfl (by kernel_rfl) rfl (op_storeRowF (i := 0) rfl rfl rfl rfl rfl rfl rfl rfl (room encP_len (k := r.1) (by omega) (by omega) rfl) (List.cons_ne_nil _ _) rfl (vp_put (i := r.1) (r.2.getD (r.1 + 1) zP) (by omega) (by omega) rfl) ⟨(List.nil_sublist _), ?_⟩)
        refine ExD.take (i := 16) rfl (by kernel_rfl) (fr_indexAddr (sz := 2) rfl rfl rfl rfl rfl rfl (by omega)) ((List.nil_sublist _)) rfl rfl rfl ?_
        refine ExD.last (i := 17) rfl (by kernel_rfl) (by kernel_rfl) rfl (op_storeRowF (i := 0) rfl rfl rfl rfl rfl rfl rfl rfl (room encP_len (k := (r.1 + 1)) (by rw [List.length_set]; omega) (by omega) rfl) (List.cons_ne_nil _ _) rfl (vp_put (i := (r.1 + 1)) (r.2.getD r.1 zP) (by rw [List.length_set]; omega) (by omega) rfl) ?_)
        refine ExD.done (by kernel_rfl) ?_
        refine Ex.region (ExL.pures 1 rfl ?_)
        refine ExL.free (by first | exact fr_add64 rfl rfl rfl (by omega) | exact fr_add rfl rfl rfl) rfl rfl rfl ?_
        refine ExL.pures 1 rfl ?_
        refine ExL.nil ?_
        refine Hand.mk ((r.1 + 1, sw r.2 r.1)) 1 [0] ⟨agI (by first | rfl | omega | (dsimp only; omega) | (push_cast; omega)), trivial⟩ ⟨rfl, rfl, rfl, rfl, rfl, rfl, trivial⟩ (by rw [← sw_eq2]; rfl) rfl ((hI.step (by omega) (by omega) hlt)) ((by first | omega | (dsimp only; omega)))
      · refine ExL.nil ?_
        refine Ex.cond_f rfl ?_
        refine Ex.exit ?_
        have hfin := hI.fin hO (by omega) (by omega) hv
        refine Ex.ret ?_
        refine MutQ.mk r.2 rfl .nil (rfl) 1 [0] (rfl) rfl (hfin)
  · refine ExL.nil ?_
    refine Ex.cond_f rfl ?_
    refine Ex.skip ?_
    refine Ex.seq ?_
    refine Ex.regSeq (ExL.pures 2 rfl ?_)
    refine ExL.free (by first | exact fr_sub64 rfl rfl rfl (by omega) | exact fr_sub rfl rfl rfl) rfl rfl rfl ?_
    refine ExL.eql rfl rfl rfl rfl rfl rfl (fun h6 => ?_) (fun h6 => ?_)
    · refine ExL.nil ?_
      refine Ex.cond_t rfl ?_
      refine Ex.regSeq (ExL.pures 2 rfl ?_)
      refine ExL.nil ?_
      refine Ex.regSeq (ExL.pures 2 rfl ?_)
      refine ExL.nil ?_
      refine Ex.seq ?_
      refine Ex.block ?_
      refine Ex.loopK (X := Nat × Nat) (fun q => [(14, .int .i64 (q.1 : Int)), (15, .int .i64 (q.2 : Int))]) (fun q => []) (fun q => Las l a m q.1 q.2) (fun q => q.2 - q.1) (a, m) [(0, _), (1, _), (2, _), (3, _), (4, _)] (_ :: F) 1 [0] ⟨agI (by first | rfl | omega | (dsimp only; omega) | (push_cast; omega)), agI (by first | rfl | omega | (dsimp only; omega) | (push_cast; omega)), trivial⟩ ⟨rfl, rfl, rfl, rfl, rfl, trivial⟩ (rfl) rfl (Las.zero (by omega)) (fun q hI => ?_)
      have hI : Las l a m q.1 q.2 := hI
      have h_1 := hI.ai
      have h_2 := hI.ij
      have h_3 := hI.jm
      refine Ex.seq ?_
      refine Ex.regSeq (ExL.pures 2 rfl ?_)
      refine ExL.lss rfl rfl rfl rfl rfl rfl (fun h7 => ?_) (fun h7 => ?_)
      · refine ExL.nil ?_
        refine Ex.cond_t rfl ?_
        refine Ex.skip ?_
        refine Ex.block ?_
        refine Ex.regSeq (ExL.pures 2 rfl ?_)
        refine ExL.free (by first | exact fr_add64 rfl rfl rfl (by omega) | exact fr_add rfl rfl rfl) rfl rfl rfl ?_
        refine ExL.free (by first | exact fr_conv_u64 rfl rfl rfl rfl (by omega) | exact fr_conv rfl rfl rfl rfl) rfl rfl rfl ?_
        refine ExL.free (fr_shr1 rfl rfl rfl) rfl rfl rfl ?_
        refine ExL.free (by first | exact fr_conv64 rfl rfl rfl rfl (by omega) | exact fr_conv rfl rfl rfl rfl) rfl rfl rfl ?_
        refine ExL.pures 1 rfl ?_
        refine ExL.nil ?_
        obtain ⟨zz, hzz⟩ : ∃ z : Nat, ((q.1 : Int) + (q.2 : Int)) / 2 = (z : Int) := ⟨(q.1 + q.2) / 2, by omega⟩
        rw [hzz]
        have hc := c3n (l.getD m zP).a (l.getD zz zP).a
        refine Ex.drawSeqM rfl ?_
        refine ExD.take (i := 0) rfl (by kernel_rfl) (pureVal_ok rfl) ((List.Sublist.refl _)) rfl rfl rfl ?_
        refine ExD.take (i := 1) rfl (by kernel_rfl) (pureVal_ok rfl) ((List.Sublist.refl _)) rfl rfl rfl ?_
        refine ExD.take (i := 2) rfl (by kernel_rfl) (pureVal_ok rfl) ((List.Sublist.refl _)) rfl rfl rfl ?_
        refine ExD.take (i := 3) rfl (by kernel_rfl) (fr_indexAddr (sz := 2) rfl rfl rfl rfl rfl rfl (by omega)) ((List.Sublist.refl _)) rfl rfl rfl ?_
        refine ExD.take (i := 4) rfl (by kernel_rfl) (fr_loadN rfl rfl rfl rfl rfl (segJ (m) (Reads.row (i := 0) rfl) encP_len rfl zP (by omega) (by omega))) ((List.Sublist.refl _)) rfl rfl rfl ?_
        refine ExD.take (i := 5) rfl (by kernel_rfl) (pureVal_ok rfl) ((List.Sublist.refl _)) rfl rfl rfl ?_
        refine ExD.take (i := 6) rfl (by kernel_rfl) (pureVal_ok rfl) ((List.Sublist.refl _)) rfl rfl rfl ?_
        refine ExD.take (i := 7) rfl (by kernel_rfl) (fr_indexAddr (sz := 2) rfl rfl rfl rfl rfl rfl (by omega)) ((List.Sublist.refl _)) rfl rfl rfl ?_
        refine ExD.take (i := 8) rfl (by kernel_rfl) (fr_loadN rfl rfl rfl rfl rfl (segJ (zz) (Reads.row (i := 0) rfl) encP_len rfl zP (by omega) (by omega))) ((List.Sublist.refl _)) rfl rfl rfl ?_
        refine ExD.op (i := 9) rfl (by kernel_rfl) rfl (op_ret rfl rfl rfl (c_mcmp (l.getD m zP) (l.getD zz zP)) (fun _ _ => trivial) rfl rfl (fun x8 hx8 => ⟨(List.Sublist.refl _), ?_⟩))
        refine ExD.cmp_lss (i := 10) rfl (by kernel_rfl) rfl rfl rfl ((List.Sublist.refl _)) rfl rfl rfl (fun h9 => ?_) (fun h9 => ?_)
        · refine ExD.take (i := 11) rfl (by kernel_rfl) (pureVal_ok rfl) ((List.Sublist.refl _)) rfl rfl rfl ?_
          refine ExD.done (by kernel_rfl) ?_
          refine Ex.cond_f rfl ?_
          refine Ex.region (ExL.pures 2 rfl ?_)
          refine ExL.nil ?_
          refine Hand.mk ((q.1, zz)) 1 [0] ⟨agI (by first | rfl | omega | (dsimp only; omega) | (push_cast; omega)), agI (by first | rfl | omega | (dsimp only; omega) | (push_cast; omega)), trivial⟩ ⟨rfl, rfl, rfl, rfl, rfl, trivial⟩ (rfl) rfl ((hI.down (h := zz) (by omega) (by omega) (by omega))) ((by first | omega | (dsimp only; omega)))
        · refine ExD.take (i := 11) rfl (by kernel_rfl) (pureVal_ok rfl) ((List.Sublist.refl _)) rfl rfl rfl ?_
          refine ExD.done (by kernel_rfl) ?_
          refine Ex.cond_t rfl ?_
          refine Ex.region (ExL.pures 1 rfl ?_)
          refine ExL.free (by first | exact fr_add64 rfl rfl rfl (by omega) | exact fr_add rfl rfl rfl) rfl rfl rfl ?_
          refine ExL.pures 1 rfl ?_
          refine ExL.nil ?_
          refine Hand.mk ((zz + 1, q.2)) 1 [0] ⟨agI (by first | rfl | omega | (dsimp only; omega) | (push_cast; omega)), agI (by first | rfl | omega | (dsimp only; omega) | (push_cast; omega)), trivial⟩ ⟨rfl, rfl, rfl, rfl, rfl, trivial⟩ (rfl) rfl ((hI.up (by omega) (by omega) (by omega))) ((by first | omega | (dsimp only; omega)))
      · refine ExL.nil ?_
        refine Ex.cond_f rfl ?_
        refine Ex.exit ?_
        have hO : Las l a m q.1 q.1 := by rw [show Las l a m q.1 q.1 = Las l a m q.1 q.2 from congrArg _ (by omega)]; exact hI
        refine Ex.seq ?_
        refine Ex.regSeq (ExL.pures 2 rfl ?_)
        refine ExL.nil ?_
        refine Ex.block ?_
        refine Ex.loopK (X := Nat × List VP) (fun r => [(17, .int .i64 (r.1 : Int))]) (fun r => [.row (.slice (some A) n c) 39 2 n (r.2.flatMap encP)]) (fun r => Dow l q.1 m r.1 r.2) (fun r => r.1) (m, l) [(0, _), (1, _), (2, _), (3, _), (4, _), (14, _)] (F) 1 [0] ⟨agI (by first | rfl | omega | (dsimp only; omega) | (push_cast; omega)), trivial⟩ ⟨rfl, rfl, rfl, rfl, rfl, rfl, trivial⟩ (rfl) rfl (Dow.zero (by omega)) (fun r hI => ?_)
        have hI : Dow l q.1 m r.1 r.2 := hI
        have hlr := hI.mv.same.len
        have h_4 := hI.km
        have h_5 := hI.ik
        refine Ex.seq ?_
        refine Ex.regSeq (ExL.pures 2 rfl ?_)
        refine ExL.gtr rfl rfl rfl rfl rfl rfl (fun h10 => ?_) (fun h10 => ?_)
        · refine ExL.nil ?_
          refine Ex.cond_t rfl ?_
          refine Ex.skip ?_
          refine Ex.seq ?_
          refine Ex.block ?_
          have hlt : (l.getD m zP).a < (l.getD (r.1 - 1) zP).a := by rcases hO.hi with g | g; (· omega); (· have := hu.le (i := q.1) (j := r.1 - 1) (by omega) (by omega) (by omega); omega)
          refine Ex.drawI [] rfl rfl ?_
          refine ExD.take (i := 0) rfl (by kernel_rfl) (pureVal_ok rfl) ((List.nil_sublist _)) rfl rfl rfl ?_
          refine ExD.take (i := 1) rfl (by kernel_rfl) (pureVal_ok rfl) ((List.nil_sublist _)) rfl rfl rfl ?_
          refine ExD.take (i := 2) rfl (by kernel_rfl) (pureVal_ok rfl) ((List.nil_sublist _)) rfl rfl rfl ?_
          refine ExD.take (i := 3) rfl (by kernel_rfl) (pureVal_ok rfl) ((List.nil_sublist _)) rfl rfl rfl ?_
          refine ExD.take (i := 4) rfl (by kernel_rfl) (by first | exact fr_sub64 rfl rfl rfl (by omega) | exact fr_sub rfl rfl rfl) ((List.nil_sublist _)) rfl rfl rfl ?_
          refine ExD.take (i := 5) rfl (by kernel_rfl) (pureVal_ok rfl) ((List.nil_sublist _)) rfl rfl rfl ?_
          refine ExD.take (i := 6) rfl (by kernel_rfl) (pureVal_ok rfl) ((List.nil_sublist _)) rfl rfl rfl ?_
          refine ExD.take (i := 7) rfl (by kernel_rfl) (by first | exact fr_sub64 rfl rfl rfl (by omega) | exact fr_sub rfl rfl rfl) ((List.nil_sublist _)) rfl rfl rfl ?_
          refine ExD.take (i := 8) rfl (by kernel_rfl) (fr_indexAddr (sz := 2) rfl rfl rfl rfl rfl rfl (by omega)) ((List.nil_sublist _)) rfl rfl rfl ?_
          refine ExD.take (i := 10) rfl (by kernel_rfl) (pureVal_ok rfl) ((List.nil_sublist _)) rfl rfl rfl ?_
          refine ExD.take (i := 11) rfl (by kernel_rfl) (pureVal_ok rfl) ((List.nil_sublist _)) rfl rfl rfl ?_
          refine ExD.take (i := 12) rfl (by kernel_rfl) (fr_indexAddr (sz := 2) rfl rfl rfl rfl rfl rfl (by omega)) ((List.nil_sublist _)) rfl rfl rfl ?_
          refine ExD.two (i := 9) (j := 13) rfl rfl (by kernel_rfl) (by kernel_rfl) (by kernel_rfl) rfl (List.nil_sublist _) rfl rfl rfl rfl rfl rfl rfl rfl rfl (fr_loadN rfl rfl rfl rfl rfl (segJ ((r.1 - 1)) (Reads.row (i := 0) rfl) encP_len rfl zP (by omega) (by omega))) (fr_loadN rfl rfl rfl rfl rfl (segJ (r.1) (Reads.row (i := 0) rfl) encP_len rfl zP (by omega) (by omega))) (fr_loadN rfl rfl rfl rfl rfl (segJ ((r.1 - 1)) (Reads.row (i := 0) rfl) encP_len rfl zP (by omega) (by omega))) (fr_loadN rfl rfl rfl rfl rfl (segJ (r.1) (Reads.row (i := 0) rfl) encP_len rfl zP (by omega) (by omega))) ?_
          refine ExD.take (i := 14) rfl (by kernel_rfl) (fr_indexAddr (sz := 2) rfl rfl rfl rfl rfl rfl (by omega)) ((List.nil_sublist _)) rfl rfl rfl ?_
          refine ExD.op (i := 15) rfl (by kernel_rfl) rfl (op_storeRowF (i := 0) rfl rfl rfl rfl rfl rfl rfl rfl (room encP_len (k := r.1) (by omega) (by omega) rfl) (List.cons_ne_nil _ _) rfl (vp_put (i := r.1) (r.2.getD (r.1 - 1) zP) (by omega) (by omega) rfl) ⟨(List.nil_sublist _), ?_⟩)
          refine ExD.take (i := 16) rfl (by kernel_rfl) (fr_indexAddr (sz := 2) rfl rfl rfl rfl rfl rfl (by omega)) ((List.nil_sublist _)) rfl rfl rfl ?_
          refine ExD.last (i := 17) rfl (by kernel_rfl) (by kernel_rfl) rfl (op_storeRowF (i := 0) rfl rfl rfl rfl rfl rfl rfl rfl (room encP_len (k := (r.1 - 1)) (by rw [List.length_set]; omega) (by omega) rfl) (List.cons_ne_nil _ _) rfl (vp_put (i := (r.1 - 1)) (r.2.getD r.1 zP) (by rw [List.length_set]; omega) (by omega) rfl) ?_)
          refine ExD.done (by kernel_rfl) ?_
          refine Ex.region (ExL.pures 1 rfl ?_)
          refine ExL.free (by first | exact fr_sub64 rfl rfl rfl (by omega) | exact fr_sub rfl rfl rfl) rfl rfl rfl ?_
          refine ExL.pures 1 rfl ?_
          refine ExL.nil ?_
          refine Hand.mk ((r.1 - 1, sw r.2 (r.1 - 1))) 1 [0] ⟨agI (by first | rfl | omega | (dsimp only; omega) | (push_cast; omega)), trivial⟩ ⟨rfl, rfl, rfl, rfl, rfl, rfl, trivial⟩ (by rw [← sw_eq (by omega)]; rfl) rfl ((hI.down (by omega) (by omega) hlt)) ((by first | omega | (dsimp only; omega)))
        · refine ExL.nil ?_
          refine Ex.cond_f rfl ?_
          refine Ex.exit ?_
          have hfin : Mv a b l r.2 ∧ Up r.2 a b := Dow.fin (i := q.1) (by rw [show Dow l q.1 m q.1 r.2 = Dow l q.1 m r.1 r.2 from by rw [show r.1 = q.1 by omega]]; exact hI) hO (by omega) hu
          refine Ex.ret ?_
          refine MutQ.mk r.2 rfl .nil (rfl) 1 [0] (rfl) rfl (hfin)
    · refine ExL.nil ?_
      refine Ex.cond_f rfl ?_
      refine Ex.skip ?_
      refine Ex.regSeq (ExL.pures 2 rfl ?_)
      refine ExL.free (by first | exact fr_add64 rfl rfl rfl (by omega) | exact fr_add rfl rfl rfl) rfl rfl rfl ?_
      refine ExL.free (by first | exact fr_conv_u64 rfl rfl rfl rfl (by omega) | exact fr_conv rfl rfl rfl rfl) rfl rfl rfl ?_
      refine ExL.free (fr_shr1 rfl rfl rfl) rfl rfl rfl ?_
      refine ExL.free (by first | exact fr_conv64 rfl rfl rfl rfl (by omega) | exact fr_conv rfl rfl rfl rfl) rfl rfl rfl ?_
      refine ExL.pures 1 rfl ?_
      refine ExL.nil ?_
      obtain ⟨mid, hmid⟩ : ∃ z : Nat, ((a : Int) + (b : Int)) / 2 = (z : Int) := ⟨(a + b) / 2, by omega⟩
      rw [hmid]
      refine Ex.regSeq (ExL.pures 2 rfl ?_)
      refine ExL.free (by first | exact fr_add64 rfl rfl rfl (by omega) | exact fr_add rfl rfl rfl) rfl rfl rfl ?_
      refine ExL.pures 1 rfl ?_
      refine ExL.nil ?_
      refine Ex.regSeq (ExL.pures 2 rfl ?_)
      refine ExL.nil ?_
      refine Ex.seq ?_
      refine Ex.regSeq (ExL.pures 2 rfl ?_)
      refine ExL.gtr rfl rfl rfl rfl rfl rfl (fun h11 => ?_) (fun h11 => ?_)
      · refine ExL.nil ?_
        refine Ex.cond_t rfl ?_
        refine Ex.regSeq (ExL.pures 2 rfl ?_)
        refine ExL.free (by first | exact fr_sub64 rfl rfl rfl (by omega) | exact fr_sub rfl rfl rfl) rfl rfl rfl ?_
        refine ExL.pures 1 rfl ?_
        refine ExL.nil ?_
        refine Ex.region (ExL.pures 2 rfl ?_)
        refine ExL.nil ?_
        refine Ex.regSeq (ExL.pures 1 rfl ?_)
        refine ExL.free (by first | exact fr_sub64 rfl rfl rfl (by omega) | exact fr_sub rfl rfl rfl) rfl rfl rfl ?_
        refine ExL.pures 1 rfl ?_
        refine ExL.nil ?_
        refine Ex.seq ?_
        refine Ex.block ?_
        refine Ex.loopK (X := Nat × Nat) (fun q => [(20, .int .i64 (q.1 : Int)), (21, .int .i64 (q.2 : Int))]) (fun q => []) (fun q => SI l (mid + m) (((mid + m) - b)) (mid) q.1 q.2) (fun q => q.2 - q.1) (((mid + m) - b), mid) [(0, _), (1, _), (2, _), (3, _), (4, _), (18, _), (19, _), (22, _)] (_ :: F) 1 [0] ⟨agI (by first | rfl | omega | (dsimp only; omega) | (push_cast; omega)), agI (by first | rfl | omega | (dsimp only; omega) | (push_cast; omega)), trivial⟩ ⟨rfl, rfl, rfl, rfl, rfl, rfl, rfl, rfl, trivial⟩ (rfl) rfl (SI.zero (by omega)) (fun q hI => ?_)
        have hI : SI l (mid + m) (((mid + m) - b)) (mid) q.1 q.2 := hI
        have h_1 := hI.s0s
        have h_2 := hI.sr
        have h_3 := hI.rr
        refine Ex.seq ?_
        refine Ex.regSeq (ExL.pures 2 rfl ?_)
        refine ExL.lss rfl rfl rfl rfl rfl rfl (fun h12 => ?_) (fun h12 => ?_)
        · refine ExL.nil ?_
          refine Ex.cond_t rfl ?_
          refine Ex.skip ?_
          refine Ex.block ?_
          refine Ex.regSeq (ExL.pures 2 rfl ?_)
          refine ExL.free (by first | exact fr_add64 rfl rfl rfl (by omega) | exact fr_add rfl rfl rfl) rfl rfl rfl ?_
          refine ExL.free (by first | exact fr_conv_u64 rfl rfl rfl rfl (by omega) | exact fr_conv rfl rfl rfl rfl) rfl rfl rfl ?_
          refine ExL.free (fr_shr1 rfl rfl rfl) rfl rfl rfl ?_
          refine ExL.free (by first | exact fr_conv64 rfl rfl rfl rfl (by omega) | exact fr_conv rfl rfl rfl rfl) rfl rfl rfl ?_
          refine ExL.pures 1 rfl ?_
          refine ExL.nil ?_
          obtain ⟨zz, hzz⟩ : ∃ z : Nat, ((q.1 : Int) + (q.2 : Int)) / 2 = (z : Int) := ⟨(q.1 + q.2) / 2, by omega⟩
          rw [hzz]
          have hc := c3n (l.getD (mid + m - 1 - zz) zP).a (l.getD zz zP).a
          refine Ex.drawSeqM rfl ?_
          refine ExD.take (i := 0) rfl (by kernel_rfl) (pureVal_ok rfl) ((List.Sublist.refl _)) rfl rfl rfl ?_
          refine ExD.take (i := 1) rfl (by kernel_rfl) (pureVal_ok rfl) ((List.Sublist.refl _)) rfl rfl rfl ?_
          refine ExD.take (i := 2) rfl (by kernel_rfl) (pureVal_ok rfl) ((List.Sublist.refl _)) rfl rfl rfl ?_
          refine ExD.take (i := 3) rfl (by kernel_rfl) (pureVal_ok rfl) ((List.Sublist.refl _)) rfl rfl rfl ?_
          refine ExD.take (i := 4) rfl (by kernel_rfl) (by first | exact fr_sub64 rfl rfl rfl (by omega) | exact fr_sub rfl rfl rfl) ((List.Sublist.refl _)) rfl rfl rfl ?_
          refine ExD.take (i := 5) rfl (by kernel_rfl) (fr_indexAddr (sz := 2) rfl rfl rfl rfl rfl rfl (by omega)) ((List.Sublist.refl _)) rfl rfl rfl ?_
          refine ExD.take (i := 6) rfl (by kernel_rfl) (fr_loadN rfl rfl rfl rfl rfl (segJ ((((mid + m) - 1) - zz)) (Reads.row (i := 0) rfl) encP_len rfl zP (by omega) (by omega))) ((List.Sublist.refl _)) rfl rfl rfl ?_
          refine ExD.take (i := 7) rfl (by kernel_rfl) (pureVal_ok rfl) ((List.Sublist.refl _)) rfl rfl rfl ?_
          refine ExD.take (i := 8) rfl (by kernel_rfl) (pureVal_ok rfl) ((List.Sublist.refl _)) rfl rfl rfl ?_
          refine ExD.take (i := 9) rfl (by kernel_rfl) (fr_indexAddr (sz := 2) rfl rfl rfl rfl rfl rfl (by omega)) ((List.Sublist.refl _)) rfl rfl rfl ?_
          refine ExD.take (i := 10) rfl (by kernel_rfl) (fr_loadN rfl rfl rfl rfl rfl (segJ (zz) (Reads.row (i := 0) rfl) encP_len rfl zP (by omega) (by omega))) ((List.Sublist.refl _)) rfl rfl rfl ?_
          refine ExD.op (i := 11) rfl (by kernel_rfl) rfl (op_ret rfl rfl rfl (c_mcmp (l.getD ((((mid + m) - 1) - zz)) zP) (l.getD zz zP)) (fun _ _ => trivial) rfl rfl (fun x13 hx13 => ⟨(List.Sublist.refl _), ?_⟩))
          refine ExD.cmp_lss (i := 12) rfl (by kernel_rfl) rfl rfl rfl ((List.Sublist.refl _)) rfl rfl rfl (fun h14 => ?_) (fun h14 => ?_)
          · refine ExD.take (i := 13) rfl (by kernel_rfl) (pureVal_ok rfl) ((List.Sublist.refl _)) rfl rfl rfl ?_
            refine ExD.done (by kernel_rfl) ?_
            refine Ex.cond_f rfl ?_
            refine Ex.region (ExL.pures 2 rfl ?_)
            refine ExL.nil ?_
            refine Hand.mk ((q.1, zz)) 1 [0] ⟨agI (by first | rfl | omega | (dsimp only; omega) | (push_cast; omega)), agI (by first | rfl | omega | (dsimp only; omega) | (push_cast; omega)), trivial⟩ ⟨rfl, rfl, rfl, rfl, rfl, rfl, rfl, rfl, trivial⟩ (rfl) rfl ((hI.down (c := zz) (by omega) (by omega) (by omega))) ((by first | omega | (dsimp only; omega)))
          · refine ExD.take (i := 13) rfl (by kernel_rfl) (pureVal_ok rfl) ((List.Sublist.refl _)) rfl rfl rfl ?_
            refine ExD.done (by kernel_rfl) ?_
            refine Ex.cond_t rfl ?_
            refine Ex.region (ExL.pures 1 rfl ?_)
            refine ExL.free (by first | exact fr_add64 rfl rfl rfl (by omega) | exact fr_add rfl rfl rfl) rfl rfl rfl ?_
            refine ExL.pures 1 rfl ?_
            refine ExL.nil ?_
            refine Hand.mk ((zz + 1, q.2)) 1 [0] ⟨agI (by first | rfl | omega | (dsimp only; omega) | (push_cast; omega)), agI (by first | rfl | omega | (dsimp only; omega) | (push_cast; omega)), trivial⟩ ⟨rfl, rfl, rfl, rfl, rfl, rfl, rfl, rfl, trivial⟩ (rfl) rfl ((hI.up (by omega) (by omega) (by omega))) ((by first | omega | (dsimp only; omega)))
        · refine ExL.nil ?_
          refine Ex.cond_f rfl ?_
          refine Ex.exit ?_
          have hcut0 := hI.cut (by omega) hab1 hab2 (by omega) (by omega) hu hv
          refine Ex.regSeq (ExL.pures 2 rfl ?_)
          refine ExL.free (by first | exact fr_sub64 rfl rfl rfl (by omega) | exact fr_sub rfl rfl rfl) rfl rfl rfl ?_
          refine ExL.pures 1 rfl ?_
          refine ExL.nil ?_
          refine Ex.seq ?_
          obtain ⟨e, he1, he2⟩ : ∃ e : Nat, ((mid : Int) + m) - q.1 = (e : Int) ∧ e = mid + m - q.1 := ⟨mid + m - q.1, by omega, rfl⟩
          rw [he1]
          have hcut := hcut0
          rw [← he2] at hcut
          have g_1 := hcut.as
          have g_2 := hcut.sm
          have g_3 := hcut.me
          have g_4 := hcut.eb
          have g_5 := hcut.sd
          refine Ex.regSeq (ExL.pures 2 rfl ?_)
          refine ExL.lss rfl rfl rfl rfl rfl rfl (fun h15 => ?_) (fun h15 => ?_)
          · refine ExL.pures 3 rfl ?_
            refine ExL.lss rfl rfl rfl rfl rfl rfl (fun h16 => ?_) (fun h16 => ?_)
            · refine ExL.pures 1 rfl ?_
              refine ExL.nil ?_
              refine Ex.cond_t rfl ?_
              refine Ex.region (ExL.pures 5 rfl ?_)
              refine ExL.op rfl (op_mut rfl rfl rfl (c_rotate l A n c (by constructor <;> omega) q.1 m e (by refine ⟨?_, ?_, ?_⟩ <;> omega)) (perm_at (i := 0) rfl) (trivial) rfl rfl (fun x17 hx17 => ?_))
              refine ExL.nil ?_
              refine Ex.seq ?_
              have hhf := hcut.half hu hv (x := x17) hx17
              have hxl : x17.length = n := by have := (hx17).1; omega
              refine Ex.regSeq (ExL.pures 2 rfl ?_)
              refine ExL.lss rfl rfl rfl rfl rfl rfl (fun h18 => ?_) (fun h18 => ?_)
              · refine ExL.pures 3 rfl ?_
                refine ExL.lss rfl rfl rfl rfl rfl rfl (fun h19 => ?_) (fun h19 => ?_)
                · refine ExL.pures 1 rfl ?_
                  refine ExL.nil ?_
                  refine Ex.cond_t rfl ?_
                  refine Ex.region (ExL.pures 5 rfl ?_)
                  refine ExL.op rfl (op_mut rfl rfl rfl (ih x17 a q.1 mid _ _ _ (by omega) (by omega) (by omega) (by omega) (by omega) hhf.u1 hhf.u2 rfl rfl rfl) (perm_at (i := 0) rfl) (trivial) rfl rfl (fun x20 hx20 => ?_))
                  refine ExL.nil ?_
                  obtain ⟨hy1, hy2⟩ := hx20
                  have hyl : x20.length = n := by have := hy1.same.len; omega
                  have hz3 : Up x20 mid e := fun i j h1 h2 h3 => by rw [hy1.out i (.inr h1), hy1.out j (.inr (by omega))]; exact hhf.u3 i j h1 h2 h3
                  have hz4 : Up x20 e b := fun i j h1 h2 h3 => by rw [hy1.out i (.inr (by omega)), hy1.out j (.inr (by omega))]; exact hhf.u4 i j h1 h2 h3
                  refine Ex.regSeq (ExL.pures 2 rfl ?_)
                  refine ExL.lss rfl rfl rfl rfl rfl rfl (fun h21 => ?_) (fun h21 => ?_)
                  · refine ExL.pures 3 rfl ?_
                    refine ExL.lss rfl rfl rfl rfl rfl rfl (fun h22 => ?_) (fun h22 => ?_)
                    · refine ExL.pures 1 rfl ?_
                      refine ExL.nil ?_
                      refine Ex.cond_t rfl ?_
                      refine Ex.region (ExL.pures 5 rfl ?_)
                      refine ExL.op rfl (op_mut rfl rfl rfl (ih x20 mid e b _ _ _ (by omega) (by omega) (by omega) (by omega) (by omega) (by assumption) (by assumption) rfl rfl rfl) (perm_at (i := 0) rfl) (trivial) rfl rfl (fun x23 hx23 => ?_))
                      refine ExL.nil ?_
                      obtain ⟨hz1, hz2⟩ := hx23
                      have hfn := hhf.fin (by omega) (by omega) (by omega) hy1 hy2 hz1 hz2
                      refine MutQ.mk x23 rfl .nil (rfl) 1 [0] (rfl) rfl (⟨(((hx17).mv (by omega) (by omega) (by omega) hcut.lt).wide (by omega) (by omega)).trans hfn.1, hfn.2⟩)
                    · refine ExL.pures 1 rfl ?_
                      refine ExL.nil ?_
                      refine Ex.cond_f rfl ?_
                      refine Ex.skip ?_
                      have hfn := hhf.fin (by omega) (by omega) (by omega) hy1 hy2 (Mv.refl _ _ _) (by rcases Nat.lt_or_ge mid e with g | g; (· rw [show b = e by omega]; exact hz3); (· rw [show mid = e by omega]; exact hz4))
                      refine MutQ.mk x20 rfl .nil (rfl) 1 [0] (rfl) rfl (⟨(((hx17).mv (by omega) (by omega) (by omega) hcut.lt).wide (by omega) (by omega)).trans hfn.1, hfn.2⟩)
                  · refine ExL.pures 5 rfl ?_
                    refine ExL.nil ?_
                    refine Ex.cond_f rfl ?_
                    refine Ex.skip ?_
                    have hfn := hhf.fin (by omega) (by omega) (by omega) hy1 hy2 (Mv.refl _ _ _) (by rcases Nat.lt_or_ge mid e with g | g; (· rw [show b = e by omega]; exact hz3); (· rw [show mid = e by omega]; exact hz4))
                    refine MutQ.mk x20 rfl .nil (rfl) 1 [0] (rfl) rfl (⟨(((hx17).mv (by omega) (by omega) (by omega) hcut.lt).wide (by omega) (by omega)).trans hfn.1, hfn.2⟩)
                · refine ExL.pures 1 rfl ?_
                  refine ExL.nil ?_
                  refine Ex.cond_f rfl ?_
                  refine Ex.skip ?_
                  have hy1 : Mv a mid x17 x17 := Mv.refl _ _ _
                  have hy2 : Up x17 a mid := by rcases Nat.lt_or_ge a q.1 with g | g; (· rw [show mid = q.1 by omega]; exact hhf.u1); (· rw [show a = q.1 by omega]; exact hhf.u2)
                  have hyl : x17.length = n := hxl
                  have hz3 : Up x17 mid e := hhf.u3
                  have hz4 : Up x17 e b := hhf.u4
                  refine Ex.regSeq (ExL.pures 2 rfl ?_)
                  refine ExL.lss rfl rfl rfl rfl rfl rfl (fun h24 => ?_) (fun h24 => ?_)
                  · refine ExL.pures 3 rfl ?_
                    refine ExL.lss rfl rfl rfl rfl rfl rfl (fun h25 => ?_) (fun h25 => ?_)
                    · refine ExL.pures 1 rfl ?_
                      refine ExL.nil ?_
                      refine Ex.cond_t rfl ?_
                      refine Ex.region (ExL.pures 5 rfl ?_)
                      refine ExL.op rfl (op_mut rfl rfl rfl (ih x17 mid e b _ _ _ (by omega) (by omega) (by omega) (by omega) (by omega) (by assumption) (by assumption) rfl rfl rfl) (perm_at (i := 0) rfl) (trivial) rfl rfl (fun x26 hx26 => ?_))
                      refine ExL.nil ?_
                      obtain ⟨hz1, hz2⟩ := hx26
                      have hfn := hhf.fin (by omega) (by omega) (by omega) hy1 hy2 hz1 hz2
                      refine MutQ.mk x26 rfl .nil (rfl) 1 [0] (rfl) rfl (⟨(((hx17).mv (by omega) (by omega) (by omega) hcut.lt).wide (by omega) (by omega)).trans hfn.1, hfn.2⟩)
                    · refine ExL.pures 1 rfl ?_
                      refine ExL.nil ?_
                      refine Ex.cond_f rfl ?_
                      refine Ex.skip ?_
                      have hfn := hhf.fin (by omega) (by omega) (by omega) hy1 hy2 (Mv.refl _ _ _) (by rcases Nat.lt_or_ge mid e with g | g; (· rw [show b = e by omega]; exact hz3); (· rw [show mid = e by omega]; exact hz4))
                      refine MutQ.mk x17 rfl .nil (rfl) 1 [0] (rfl) rfl (⟨(((hx17).mv (by omega) (by omega) (by omega) hcut.lt).wide (by omega) (by omega)).trans hfn.1, hfn.2⟩)
                  · refine ExL.pures 5 rfl ?_
                    refine ExL.nil ?_
                    refine Ex.cond_f rfl ?_
                    refine Ex.skip ?_
                    have hfn := hhf.fin (by omega) (by omega) (by omega) hy1 hy2 (Mv.refl _ _ _) (by rcases Nat.lt_or_ge mid e with g | g; (· rw [show b = e by omega]; exact hz3); (· rw [show mid = e by omega]; exact hz4))
                    refine MutQ.mk x17 rfl .nil (rfl) 1 [0] (rfl) rfl (⟨(((hx17).mv (by omega) (by omega) (by omega) hcut.lt).wide (by omega) (by omega)).trans hfn.1, hfn.2⟩)
              · refine ExL.pures 5 rfl ?_
                refine ExL.nil ?_
                refine Ex.cond_f rfl ?_
                refine Ex.skip ?_
                have hy1 : Mv a mid x17 x17 := Mv.refl _ _ _
                have hy2 : Up x17 a mid := by rcases Nat.lt_or_ge a q.1 with g | g; (· rw [show mid = q.1 by omega]; exact hhf.u1); (· rw [show a = q.1 by omega]; exact hhf.u2)
                have hyl : x17.length = n := hxl
                have hz3 : Up x17 mid e := hhf.u3
                have hz4 : Up x17 e b := hhf.u4
                refine Ex.regSeq (ExL.pures 2 rfl ?_)
                refine ExL.lss rfl rfl rfl rfl rfl rfl (fun h27 => ?_) (fun h27 => ?_)
                · refine ExL.pures 3 rfl ?_
                  refine ExL.lss rfl rfl rfl rfl rfl rfl (fun h28 => ?_) (fun h28 => ?_)
                  · refine ExL.pures 1 rfl ?_
                    refine ExL.nil ?_
                    refine Ex.cond_t rfl ?_
                    refine Ex.region (ExL.pures 5 rfl ?_)
                    refine ExL.op rfl (op_mut rfl rfl rfl (ih x17 mid e b _ _ _ (by omega) (by omega) (by omega) (by omega) (by omega) (by assumption) (by assumption) rfl rfl rfl) (perm_at (i := 0) rfl) (trivial) rfl rfl (fun x29 hx29 => ?_))
                    refine ExL.nil ?_
                    obtain ⟨hz1, hz2⟩ := hx29
                    have hfn := hhf.fin (by omega) (by omega) (by omega) hy1 hy2 hz1 hz2
                    refine MutQ.mk x29 rfl .nil (rfl) 1 [0] (rfl) rfl (⟨(((hx17).mv (by omega) (by omega) (by omega) hcut.lt).wide (by omega) (by omega)).trans hfn.1, hfn.2⟩)
                  · refine ExL.pures 1 rfl ?_
                    refine ExL.nil ?_
                    refine Ex.cond_f rfl ?_
                    refine Ex.skip ?_
                    have hfn := hhf.fin (by omega) (by omega) (by omega) hy1 hy2 (Mv.refl _ _ _) (by rcases Nat.lt_or_ge mid e with g | g; (· rw [show b = e by omega]; exact hz3); (· rw [show mid = e by omega]; exact hz4))
                    refine MutQ.mk x17 rfl .nil (rfl) 1 [0] (rfl) rfl (⟨(((hx17).mv (by omega) (by omega) (by omega) hcut.lt).wide (by omega) (by omega)).trans hfn.1, hfn.2⟩)
                · refine ExL.pures 5 rfl ?_
                  refine ExL.nil ?_
                  refine Ex.cond_f rfl ?_
                  refine Ex.skip ?_
                  have hfn := hhf.fin (by omega) (by omega) (by omega) hy1 hy2 (Mv.refl _ _ _) (by rcases Nat.lt_or_ge mid e with g | g; (· rw [show b = e by omega]; exact hz3); (· rw [show mid = e by omega]; exact hz4))
                  refine MutQ.mk x17 rfl .nil (rfl) 1 [0] (rfl) rfl (⟨(((hx17).mv (by omega) (by omega) (by omega) hcut.lt).wide (by omega) (by omega)).trans hfn.1, hfn.2⟩)
            · refine ExL.pures 1 rfl ?_
              refine ExL.nil ?_
              refine Ex.cond_f rfl ?_
              refine Ex.skip ?_
              refine Ex.seq ?_
              have hhf := hcut.half hu hv (x := l) (Rot.id (by omega) (by omega) (by omega))
              have hxl : l.length = n := by omega
              refine Ex.regSeq (ExL.pures 2 rfl ?_)
              refine ExL.lss rfl rfl rfl rfl rfl rfl (fun h30 => ?_) (fun h30 => ?_)
              · refine ExL.pures 3 rfl ?_
                refine ExL.lss rfl rfl rfl rfl rfl rfl (fun h31 => ?_) (fun h31 => ?_)
                · refine ExL.pures 1 rfl ?_
                  refine ExL.nil ?_
                  refine Ex.cond_t rfl ?_
                  refine Ex.region (ExL.pures 5 rfl ?_)
                  refine ExL.op rfl (op_mut rfl rfl rfl (ih l a q.1 mid _ _ _ (by omega) (by omega) (by omega) (by omega) (by omega) hhf.u1 hhf.u2 rfl rfl rfl) (perm_at (i := 0) rfl) (trivial) rfl rfl (fun x32 hx32 => ?_))
                  refine ExL.nil ?_
                  obtain ⟨hy1, hy2⟩ := hx32
                  have hyl : x32.length = n := by have := hy1.same.len; omega
                  have hz3 : Up x32 mid e := fun i j h1 h2 h3 => by rw [hy1.out i (.inr h1), hy1.out j (.inr (by omega))]; exact hhf.u3 i j h1 h2 h3
                  have hz4 : Up x32 e b := fun i j h1 h2 h3 => by rw [hy1.out i (.inr (by omega)), hy1.out j (.inr (by omega))]; exact hhf.u4 i j h1 h2 h3
                  refine Ex.regSeq (ExL.pures 2 rfl ?_)
                  refine ExL.lss rfl rfl rfl rfl rfl rfl (fun h33 => ?_) (fun h33 => ?_)
                  · refine ExL.pures 3 rfl ?_
                    refine ExL.lss rfl rfl rfl rfl rfl rfl (fun h34 => ?_) (fun h34 => ?_)
                    · refine ExL.pures 1 rfl ?_
                      refine ExL.nil ?_
                      refine Ex.cond_t rfl ?_
                      refine Ex.region (ExL.pures 5 rfl ?_)
                      refine ExL.op rfl (op_mut rfl rfl rfl (ih x32 mid e b _ _ _ (by omega) (by omega) (by omega) (by omega) (by omega) (by assumption) (by assumption) rfl rfl rfl) (perm_at (i := 0) rfl) (trivial) rfl rfl (fun x35 hx35 => ?_))
                      refine ExL.nil ?_
                      obtain ⟨hz1, hz2⟩ := hx35
                      have hfn := hhf.fin (by omega) (by omega) (by omega) hy1 hy2 hz1 hz2
                      refine MutQ.mk x35 rfl .nil (rfl) 1 [0] (rfl) rfl (⟨hfn.1, hfn.2⟩)
                    · refine ExL.pures 1 rfl ?_
                      refine ExL.nil ?_
                      refine Ex.cond_f rfl ?_
                      refine Ex.skip ?_
                      have hfn := hhf.fin (by omega) (by omega) (by omega) hy1 hy2 (Mv.refl _ _ _) (by rcases Nat.lt_or_ge mid e with g | g; (· rw [show b = e by omega]; exact hz3); (· rw [show mid = e by omega]; exact hz4))
                      refine MutQ.mk x32 rfl .nil (rfl) 1 [0] (rfl) rfl (⟨hfn.1, hfn.2⟩)
                  · refine ExL.pures 5 rfl ?_
                    refine ExL.nil ?_
                    refine Ex.cond_f rfl ?_
                    refine Ex.skip ?_
                    have hfn := hhf.fin (by omega) (by omega) (by omega) hy1 hy2 (Mv.refl _ _ _) (by rcases Nat.lt_or_ge mid e with g | g; (· rw [show b = e by omega]; exact hz3); (· rw [show mid = e by omega]; exact hz4))
                    refine MutQ.mk x32 rfl .nil (rfl) 1 [0] (rfl) rfl (⟨hfn.1, hfn.2⟩)
                · refine ExL.pures 1 rfl ?_
                  refine ExL.nil ?_
                  refine Ex.cond_f rfl ?_
                  refine Ex.skip ?_
                  have hy1 : Mv a mid l l := Mv.refl _ _ _
                  have hy2 : Up l a mid := by rcases Nat.lt_or_ge a q.1 with g | g; (· rw [show mid = q.1 by omega]; exact hhf.u1); (· rw [show a = q.1 by omega]; exact hhf.u2)
                  have hyl : l.length = n := hxl
                  have hz3 : Up l mid e := hhf.u3
                  have hz4 : Up l e b := hhf.u4
                  refine Ex.regSeq (ExL.pures 2 rfl ?_)
                  refine ExL.lss rfl rfl rfl rfl rfl rfl (fun h36 => ?_) (fun h36 => ?_)
                  · refine ExL.pures 3 rfl ?_
                    refine ExL.lss rfl rfl rfl rfl rfl rfl (fun h37 => ?_) (fun h37 => ?_)
                    · refine ExL.pures 1 rfl ?_
                      refine ExL.nil ?_
                      refine Ex.cond_t rfl ?_
                      refine Ex.region (ExL.pures 5 rfl ?_)
                      refine ExL.op rfl (op_mut rfl rfl rfl (ih l mid e b _ _ _ (by omega) (by omega) (by omega) (by omega) (by omega) (by assumption) (by assumption) rfl rfl rfl) (perm_at (i := 0) rfl) (trivial) rfl rfl (fun x38 hx38 => ?_))
                      refine ExL.nil ?_
                      obtain ⟨hz1, hz2⟩ := hx38
                      have hfn := hhf.fin (by omega) (by omega) (by omega) hy1 hy2 hz1 hz2
                      refine MutQ.mk x38 rfl .nil (rfl) 1 [0] (rfl) rfl (⟨hfn.1, hfn.2⟩)
                    · refine ExL.pures 1 rfl ?_
                      refine ExL.nil ?_
                      refine Ex.cond_f rfl ?_
                      refine Ex.skip ?_
                      have hfn := hhf.fin (by omega) (by omega) (by omega) hy1 hy2 (Mv.refl _ _ _) (by rcases Nat.lt_or_ge mid e with g | g; (· rw [show b = e by omega]; exact hz3); (· rw [show mid = e by omega]; exact hz4))
                      refine MutQ.mk l rfl .nil (rfl) 1 [0] (rfl) rfl (⟨hfn.1, hfn.2⟩)
                  · refine ExL.pures 5 rfl ?_
                    refine ExL.nil ?_
                    refine Ex.cond_f rfl ?_
                    refine Ex.skip ?_
                    have hfn := hhf.fin (by omega) (by omega) (by omega) hy1 hy2 (Mv.refl _ _ _) (by rcases Nat.lt_or_ge mid e with g | g; (· rw [show b = e by omega]; exact hz3); (· rw [show mid = e by omega]; exact hz4))
                    refine MutQ.mk l rfl .nil (rfl) 1 [0] (rfl) rfl (⟨hfn.1, hfn.2⟩)
              · refine ExL.pures 5 rfl ?_
                refine ExL.nil ?_
                refine Ex.cond_f rfl ?_
                refine Ex.skip ?_
                have hy1 : Mv a mid l l := Mv.refl _ _ _
                have hy2 : Up l a mid := by rcases Nat.lt_or_ge a q.1 with g | g; (· rw [show mid = q.1 by omega]; exact hhf.u1); (· rw [show a = q.1 by omega]; exact hhf.u2)
                have hyl : l.length = n := hxl
                have hz3 : Up l mid e := hhf.u3
                have hz4 : Up l e b := hhf.u4
                refine Ex.regSeq (ExL.pures 2 rfl ?_)
                refine ExL.lss rfl rfl rfl rfl rfl rfl (fun h39 => ?_) (fun h39 => ?_)
                · refine ExL.pures 3 rfl ?_
                  refine ExL.lss rfl rfl rfl rfl rfl rfl (fun h40 => ?_) (fun h40 => ?_)
                  · refine ExL.pures 1 rfl ?_
                    refine ExL.nil ?_
                    refine Ex.cond_t rfl ?_
                    refine Ex.region (ExL.pures 5 rfl ?_)
                    refine ExL.op rfl (op_mut rfl rfl rfl (ih l mid e b _ _ _ (by omega) (by omega) (by omega) (by omega) (by omega) (by assumption) (by assumption) rfl rfl rfl) (perm_at (i := 0) rfl) (trivial) rfl rfl (fun x41 hx41 => ?_))
                    refine ExL.nil ?_
                    obtain ⟨hz1, hz2⟩ := hx41
                    have hfn := hhf.fin (by omega) (by omega) (by omega) hy1 hy2 hz1 hz2
                    refine MutQ.mk x41 rfl .nil (rfl) 1 [0] (rfl) rfl (⟨hfn.1, hfn.2⟩)
                  · refine ExL.pures 1 rfl ?_
                    refine ExL.nil ?_
                    refine Ex.cond_f rfl ?_
                    refine Ex.skip ?_
                    have hfn := hhf.fin (by omega) (by omega) (by omega) hy1 hy2 (Mv.refl _ _ _) (by rcases Nat.lt_or_ge mid e with g | g; (· rw [show b = e by omega]; exact hz3); (· rw [show mid = e by omega]; exact hz4))
                    refine MutQ.mk l rfl .nil (rfl) 1 [0] (rfl) rfl (⟨hfn.1, hfn.2⟩)
                · refine ExL.pures 5 rfl ?_
                  refine ExL.nil ?_
                  refine Ex.cond_f rfl ?_
                  refine Ex.skip ?_
                  have hfn := hhf.fin (by omega) (by omega) (by omega) hy1 hy2 (Mv.refl _ _ _) (by rcases Nat.lt_or_ge mid e with g | g; (· rw [show b = e by omega]; exact hz3); (· rw [show mid = e by omega]; exact hz4))
                  refine MutQ.mk l rfl .nil (rfl) 1 [0] (rfl) rfl (⟨hfn.1, hfn.2⟩)
          · refine ExL.pures 5 rfl ?_
            refine ExL.nil ?_
            refine Ex.cond_f rfl ?_
            refine Ex.skip ?_
            refine Ex.seq ?_
            have hhf := hcut.half hu hv (x := l) (Rot.id (by omega) (by omega) (by omega))
            have hxl : l.length = n := by omega
            refine Ex.regSeq (ExL.pures 2 rfl ?_)
            refine ExL.lss rfl rfl rfl rfl rfl rfl (fun h42 => ?_) (fun h42 => ?_)
            · refine ExL.pures 3 rfl ?_
              refine ExL.lss rfl rfl rfl rfl rfl rfl (fun h43 => ?_) (fun h43 => ?_)
              · refine ExL.pures 1 rfl ?_
                refine ExL.nil ?_
                refine Ex.cond_t rfl ?_
                refine Ex.region (ExL.pures 5 rfl ?_)
                refine ExL.op rfl (op_mut rfl rfl rfl (ih l a q.1 mid _ _ _ (by omega) (by omega) (by omega) (by omega) (by omega) hhf.u1 hhf.u2 rfl rfl rfl) (perm_at (i := 0) rfl) (trivial) rfl rfl (fun x44 hx44 => ?_))
                refine ExL.nil ?_
                obtain ⟨hy1, hy2⟩ := hx44
                have hyl : x44.length = n := by have := hy1.same.len; omega
                have hz3 : Up x44 mid e := fun i j h1 h2 h3 => by rw [hy1.out i (.inr h1), hy1.out j (.inr (by omega))]; exact hhf.u3 i j h1 h2 h3
                have hz4 : Up x44 e b := fun i j h1 h2 h3 => by rw [hy1.out i (.inr (by omega)), hy1.out j (.inr (by omega))]; exact hhf.u4 i j h1 h2 h3
                refine Ex.regSeq (ExL.pures 2 rfl ?_)
                refine ExL.lss rfl rfl rfl rfl rfl rfl (fun h45 => ?_) (fun h45 => ?_)
                · refine ExL.pures 3 rfl ?_
                  refine ExL.lss rfl rfl rfl rfl rfl rfl (fun h46 => ?_) (fun h46 => ?_)
                  · refine ExL.pures 1 rfl ?_
                    refine ExL.nil ?_
                    refine Ex.cond_t rfl ?_
                    refine Ex.region (ExL.pures 5 rfl ?_)
                    refine ExL.op rfl (op_mut rfl rfl rfl (ih x44 mid e b _ _ _ (by omega) (by omega) (by omega) (by omega) (by omega) (by assumption) (by assumption) rfl rfl rfl) (perm_at (i := 0) rfl) (trivial) rfl rfl (fun x47 hx47 => ?_))
                    refine ExL.nil ?_
                    obtain ⟨hz1, hz2⟩ := hx47
                    have hfn := hhf.fin (by omega) (by omega) (by omega) hy1 hy2 hz1 hz2
                    refine MutQ.mk x47 rfl .nil (rfl) 1 [0] (rfl) rfl (⟨hfn.1, hfn.2⟩)
                  · refine ExL.pures 1 rfl ?_
                    refine ExL.nil ?_
                    refine Ex.cond_f rfl ?_
                    refine Ex.skip ?_
                    have hfn := hhf.fin (by omega) (by omega) (by omega) hy1 hy2 (Mv.refl _ _ _) (by rcases Nat.lt_or_ge mid e with g | g; (· rw [show b = e by omega]; exact hz3); (· rw [show mid = e by omega]; exact hz4))
                    refine MutQ.mk x44 rfl .nil (rfl) 1 [0] (rfl) rfl (⟨hfn.1, hfn.2⟩)
                · refine ExL.pures 5 rfl ?_
                  refine ExL.nil ?_
                  refine Ex.cond_f rfl ?_
                  refine Ex.skip ?_
                  have hfn := hhf.fin (by omega) (by omega) (by omega) hy1 hy2 (Mv.refl _ _ _) (by rcases Nat.lt_or_ge mid e with g | g; (· rw [show b = e by omega]; exact hz3); (· rw [show mid = e by omega]; exact hz4))
                  refine MutQ.mk x44 rfl .nil (rfl) 1 [0] (rfl) rfl (⟨hfn.1, hfn.2⟩)
              · refine ExL.pures 1 rfl ?_
                refine ExL.nil ?_
                refine Ex.cond_f rfl ?_
                refine Ex.skip ?_
                have hy1 : Mv a mid l l := Mv.refl _ _ _
                have hy2 : Up l a mid := by rcases Nat.lt_or_ge a q.1 with g | g; (· rw [show mid = q.1 by omega]; exact hhf.u1); (· rw [show a = q.1 by omega]; exact hhf.u2)
                have hyl : l.length = n := hxl
                have hz3 : Up l mid e := hhf.u3
                have hz4 : Up l e b := hhf.u4
                refine Ex.regSeq (ExL.pures 2 rfl ?_)
                refine ExL.lss rfl rfl rfl rfl rfl rfl (fun h48 => ?_) (fun h48 => ?_)
                · refine ExL.pures 3 rfl ?_
                  refine ExL.lss rfl rfl rfl rfl rfl rfl (fun h49 => ?_) (fun h49 => ?_)
                  · refine ExL.pures 1 rfl ?_
                    refine ExL.nil ?_
                    refine Ex.cond_t rfl ?_
                    refine Ex.region (ExL.pures 5 rfl ?_)
                    refine ExL.op rfl (op_mut rfl rfl rfl (ih l mid e b _ _ _ (by omega) (by omega) (by omega) (by omega) (by omega) (by assumption) (by assumption) rfl rfl rfl) (perm_at (i := 0) rfl) (trivial) rfl rfl (fun x50 hx50 => ?_))
                    refine ExL.nil ?_
                    obtain ⟨hz1, hz2⟩ := hx50
                    have hfn := hhf.fin (by omega) (by omega) (by omega) hy1 hy2 hz1 hz2
                    refine MutQ.mk x50 rfl .nil (rfl) 1 [0] (rfl) rfl (⟨hfn.1, hfn.2⟩)
                  · refine ExL.pures 1 rfl ?_
                    refine ExL.nil ?_
                    refine Ex.cond_f rfl ?_
                    refine Ex.skip ?_
                    have hfn := hhf.fin (by omega) (by omega) (by omega) hy1 hy2 (Mv.refl _ _ _) (by rcases Nat.lt_or_ge mid e with g | g; (· rw [show b = e by omega]; exact hz3); (· rw [show mid = e by omega]; exact hz4))
                    refine MutQ.mk l rfl .nil (rfl) 1 [0] (rfl) rfl (⟨hfn.1, hfn.2⟩)
                · refine ExL.pures 5 rfl ?_
                  refine ExL.nil ?_
                  refine Ex.cond_f rfl ?_
                  refine Ex.skip ?_
                  have hfn := hhf.fin (by omega) (by omega) (by omega) hy1 hy2 (Mv.refl _ _ _) (by rcases Nat.lt_or_ge mid e with g | g; (· rw [show b = e by omega]; exact hz3); (· rw [show mid = e by omega]; exact hz4))
                  refine MutQ.mk l rfl .nil (rfl) 1 [0] (rfl) rfl (⟨hfn.1, hfn.2⟩)
            · refine ExL.pures 5 rfl ?_
              refine ExL.nil ?_
              refine Ex.cond_f rfl ?_
              refine Ex.skip ?_
              have hy1 : Mv a mid l l := Mv.refl _ _ _
              have hy2 : Up l a mid := by rcases Nat.lt_or_ge a q.1 with g | g; (· rw [show mid = q.1 by omega]; exact hhf.u1); (· rw [show a = q.1 by omega]; exact hhf.u2)
              have hyl : l.length = n := hxl
              have hz3 : Up l mid e := hhf.u3
              have hz4 : Up l e b := hhf.u4
              refine Ex.regSeq (ExL.pures 2 rfl ?_)
              refine ExL.lss rfl rfl rfl rfl rfl rfl (fun h51 => ?_) (fun h51 => ?_)
              · refine ExL.pures 3 rfl ?_
                refine ExL.lss rfl rfl rfl rfl rfl rfl (fun h52 => ?_) (fun h52 => ?_)
                · refine ExL.pures 1 rfl ?_
                  refine ExL.nil ?_
                  refine Ex.cond_t rfl ?_
                  refine Ex.region (ExL.pures 5 rfl ?_)
                  refine ExL.op rfl (op_mut rfl rfl rfl (ih l mid e b _ _ _ (by omega) (by omega) (by omega) (by omega) (by omega) (by assumption) (by assumption) rfl rfl rfl) (perm_at (i := 0) rfl) (trivial) rfl rfl (fun x53 hx53 => ?_))
                  refine ExL.nil ?_
                  obtain ⟨hz1, hz2⟩ := hx53
                  have hfn := hhf.fin (by omega) (by omega) (by omega) hy1 hy2 hz1 hz2
                  refine MutQ.mk x53 rfl .nil (rfl) 1 [0] (rfl) rfl (⟨hfn.1, hfn.2⟩)
                · refine ExL.pures 1 rfl ?_
                  refine ExL.nil ?_
                  refine Ex.cond_f rfl ?_
                  refine Ex.skip ?_
                  have hfn := hhf.fin (by omega) (by omega) (by omega) hy1 hy2 (Mv.refl _ _ _) (by rcases Nat.lt_or_ge mid e with g | g; (· rw [show b = e by omega]; exact hz3); (· rw [show mid = e by omega]; exact hz4))
                  refine MutQ.mk l rfl .nil (rfl) 1 [0] (rfl) rfl (⟨hfn.1, hfn.2⟩)
              · refine ExL.pures 5 rfl ?_
                refine ExL.nil ?_
                refine Ex.cond_f rfl ?_
                refine Ex.skip ?_
                have hfn := hhf.fin (by omega) (by omega) (by omega) hy1 hy2 (Mv.refl _ _ _) (by rcases Nat.lt_or_ge mid e with g | g; (· rw [show b = e by omega]; exact hz3); (· rw [show mid = e by omega]; exact hz4))
                refine MutQ.mk l rfl .nil (rfl) 1 [0] (rfl) rfl (⟨hfn.1, hfn.2⟩)
      · refine ExL.nil ?_
        refine Ex.cond_f rfl ?_
        refine Ex.regSeq (ExL.pures 2 rfl ?_)
        refine ExL.nil ?_
        refine Ex.region (ExL.pures 2 rfl ?_)
        refine ExL.nil ?_
        refine Ex.regSeq (ExL.pures 1 rfl ?_)
        refine ExL.free (by first | exact fr_sub64 rfl rfl rfl (by omega) | exact fr_sub rfl rfl rfl) rfl rfl rfl ?_
        refine ExL.pures 1 rfl ?_
        refine ExL.nil ?_
        refine Ex.seq ?_
        refine Ex.block ?_
        refine Ex.loopK (X := Nat × Nat) (fun q => [(20, .int .i64 (q.1 : Int)), (21, .int .i64 (q.2 : Int))]) (fun q => []) (fun q => SI l (mid + m) (a) (m) q.1 q.2) (fun q => q.2 - q.1) (a, m) [(0, _), (1, _), (2, _), (3, _), (4, _), (18, _), (19, _), (22, _)] (_ :: F) 1 [0] ⟨agI (by first | rfl | omega | (dsimp only; omega) | (push_cast; omega)), agI (by first | rfl | omega | (dsimp only; omega) | (push_cast; omega)), trivial⟩ ⟨rfl, rfl, rfl, rfl, rfl, rfl, rfl, rfl, trivial⟩ (rfl) rfl (SI.zero (by omega)) (fun q hI => ?_)
        have hI : SI l (mid + m) (a) (m) q.1 q.2 := hI
        have h_1 := hI.s0s
        have h_2 := hI.sr
        have h_3 := hI.rr
        refine Ex.seq ?_
        refine Ex.regSeq (ExL.pures 2 rfl ?_)
        refine ExL.lss rfl rfl rfl rfl rfl rfl (fun h54 => ?_) (fun h54 => ?_)
        · refine ExL.nil ?_
          refine Ex.cond_t rfl ?_
          refine Ex.skip ?_
          refine Ex.block ?_
          refine Ex.regSeq (ExL.pures 2 rfl ?_)
          refine ExL.free (by first | exact fr_add64 rfl rfl rfl (by omega) | exact fr_add rfl rfl rfl) rfl rfl rfl ?_
          refine ExL.free (by first | exact fr_conv_u64 rfl rfl rfl rfl (by omega) | exact fr_conv rfl rfl rfl rfl) rfl rfl rfl ?_
          refine ExL.free (fr_shr1 rfl rfl rfl) rfl rfl rfl ?_
          refine ExL.free (by first | exact fr_conv64 rfl rfl rfl rfl (by omega) | exact fr_conv rfl rfl rfl rfl) rfl rfl rfl ?_
          refine ExL.pures 1 rfl ?_
          refine ExL.nil ?_
          obtain ⟨zz, hzz⟩ : ∃ z : Nat, ((q.1 : Int) + (q.2 : Int)) / 2 = (z : Int) := ⟨(q.1 + q.2) / 2, by omega⟩
          rw [hzz]
          have hc := c3n (l.getD (mid + m - 1 - zz) zP).a (l.getD zz zP).a
          refine Ex.drawSeqM rfl ?_
          refine ExD.take (i := 0) rfl (by kernel_rfl) (pureVal_ok rfl) ((List.Sublist.refl _)) rfl rfl rfl ?_
          refine ExD.take (i := 1) rfl (by kernel_rfl) (pureVal_ok rfl) ((List.Sublist.refl _)) rfl rfl rfl ?_
          refine ExD.take (i := 2) rfl (by kernel_rfl) (pureVal_ok rfl) ((List.Sublist.refl _)) rfl rfl rfl ?_
          refine ExD.take (i := 3) rfl (by kernel_rfl) (pureVal_ok rfl) ((List.Sublist.refl _)) rfl rfl rfl ?_
          refine ExD.take (i := 4) rfl (by kernel_rfl) (by first | exact fr_sub64 rfl rfl rfl (by omega) | exact fr_sub rfl rfl rfl) ((List.Sublist.refl _)) rfl rfl rfl ?_
          refine ExD.take (i := 5) rfl (by kernel_rfl) (fr_indexAddr (sz := 2) rfl rfl rfl rfl rfl rfl (by omega)) ((List.Sublist.refl _)) rfl rfl rfl ?_
          refine ExD.take (i := 6) rfl (by kernel_rfl) (fr_loadN rfl rfl rfl rfl rfl (segJ ((((mid + m) - 1) - zz)) (Reads.row (i := 0) rfl) encP_len rfl zP (by omega) (by omega))) ((List.Sublist.refl _)) rfl rfl rfl ?_
          refine ExD.take (i := 7) rfl (by kernel_rfl) (pureVal_ok rfl) ((List.Sublist.refl _)) rfl rfl rfl ?_
          refine ExD.take (i := 8) rfl (by kernel_rfl) (pureVal_ok rfl) ((List.Sublist.refl _)) rfl rfl rfl ?_
          refine ExD.take (i := 9) rfl (by kernel_rfl) (fr_indexAddr (sz := 2) rfl rfl rfl rfl rfl rfl (by omega)) ((List.Sublist.refl _)) rfl rfl rfl ?_
          refine ExD.take (i := 10) rfl (by kernel_rfl) (fr_loadN rfl rfl rfl rfl rfl (segJ (zz) (Reads.row (i := 0) rfl) encP_len rfl zP (by omega) (by omega))) ((List.Sublist.refl _)) rfl rfl rfl ?_
          refine ExD.op (i := 11) rfl (by kernel_rfl) rfl (op_ret rfl rfl rfl (c_mcmp (l.getD ((((mid + m) - 1) - zz)) zP) (l.getD zz zP)) (fun _ _ => trivial) rfl rfl (fun x55 hx55 => ⟨(List.Sublist.refl _), ?_⟩))
          refine ExD.cmp_lss (i := 12) rfl (by kernel_rfl) rfl rfl rfl ((List.Sublist.refl _)) rfl rfl rfl (fun h56 => ?_) (fun h56 => ?_)
          · refine ExD.take (i := 13) rfl (by kernel_rfl) (pureVal_ok rfl) ((List.Sublist.refl _)) rfl rfl rfl ?_
            refine ExD.done (by kernel_rfl) ?_
            refine Ex.cond_f rfl ?_
            refine Ex.region (ExL.pures 2 rfl ?_)
            refine ExL.nil ?_
            refine Hand.mk ((q.1, zz)) 1 [0] ⟨agI (by first | rfl | omega | (dsimp only; omega) | (push_cast; omega)), agI (by first | rfl | omega | (dsimp only; omega) | (push_cast; omega)), trivial⟩ ⟨rfl, rfl, rfl, rfl, rfl, rfl, rfl, rfl, trivial⟩ (rfl) rfl ((hI.down (c := zz) (by omega) (by omega) (by omega))) ((by first | omega | (dsimp only; omega)))
          · refine ExD.take (i := 13) rfl (by kernel_rfl) (pureVal_ok rfl) ((List.Sublist.refl _)) rfl rfl rfl ?_
            refine ExD.done (by kernel_rfl) ?_
            refine Ex.cond_t rfl ?_
            refine Ex.region (ExL.pures 1 rfl ?_)
            refine ExL.free (by first | exact fr_add64 rfl rfl rfl (by omega) | exact fr_add rfl rfl rfl) rfl rfl rfl ?_
            refine ExL.pures 1 rfl ?_
            refine ExL.nil ?_
            refine Hand.mk ((zz + 1, q.2)) 1 [0] ⟨agI (by first | rfl | omega | (dsimp only; omega) | (push_cast; omega)), agI (by first | rfl | omega | (dsimp only; omega) | (push_cast; omega)), trivial⟩ ⟨rfl, rfl, rfl, rfl, rfl, rfl, rfl, rfl, trivial⟩ (rfl) rfl ((hI.up (by omega) (by omega) (by omega))) ((by first | omega | (dsimp only; omega)))
        · refine ExL.nil ?_
          refine Ex.cond_f rfl ?_
          refine Ex.exit ?_
          have hcut0 := hI.cut (by omega) hab1 hab2 (by omega) (by omega) hu hv
          refine Ex.regSeq (ExL.pures 2 rfl ?_)
          refine ExL.free (by first | exact fr_sub64 rfl rfl rfl (by omega) | exact fr_sub rfl rfl rfl) rfl rfl rfl ?_
          refine ExL.pures 1 rfl ?_
          refine ExL.nil ?_
          refine Ex.seq ?_
          obtain ⟨e, he1, he2⟩ : ∃ e : Nat, ((mid : Int) + m) - q.1 = (e : Int) ∧ e = mid + m - q.1 := ⟨mid + m - q.1, by omega, rfl⟩
          rw [he1]
          have hcut := hcut0
          rw [← he2] at hcut
          have g_1 := hcut.as
          have g_2 := hcut.sm
          have g_3 := hcut.me
          have g_4 := hcut.eb
          have g_5 := hcut.sd
          refine Ex.regSeq (ExL.pures 2 rfl ?_)
          refine ExL.lss rfl rfl rfl rfl rfl rfl (fun h57 => ?_) (fun h57 => ?_)
          · refine ExL.pures 3 rfl ?_
            refine ExL.lss rfl rfl rfl rfl rfl rfl (fun h58 => ?_) (fun h58 => ?_)
            · refine ExL.pures 1 rfl ?_
              refine ExL.nil ?_
              refine Ex.cond_t rfl ?_
              refine Ex.region (ExL.pures 5 rfl ?_)
              refine ExL.op rfl (op_mut rfl rfl rfl (c_rotate l A n c (by constructor <;> omega) q.1 m e (by refine ⟨?_, ?_, ?_⟩ <;> omega)) (perm_at (i := 0) rfl) (trivial) rfl rfl (fun x59 hx59 => ?_))
              refine ExL.nil ?_
              refine Ex.seq ?_
              have hhf := hcut.half hu hv (x := x59) hx59
              have hxl : x59.length = n := by have := (hx59).1; omega
              refine Ex.regSeq (ExL.pures 2 rfl ?_)
              refine ExL.lss rfl rfl rfl rfl rfl rfl (fun h60 => ?_) (fun h60 => ?_)
              · refine ExL.pures 3 rfl ?_
                refine ExL.lss rfl rfl rfl rfl rfl rfl (fun h61 => ?_) (fun h61 => ?_)
                · refine ExL.pures 1 rfl ?_
                  refine ExL.nil ?_
                  refine Ex.cond_t rfl ?_
                  refine Ex.region (ExL.pures 5 rfl ?_)
                  refine ExL.op rfl (op_mut rfl rfl rfl (ih x59 a q.1 mid _ _ _ (by omega) (by omega) (by omega) (by omega) (by omega) hhf.u1 hhf.u2 rfl rfl rfl) (perm_at (i := 0) rfl) (trivial) rfl rfl (fun x62 hx62 => ?_))
                  refine ExL.nil ?_
                  obtain ⟨hy1, hy2⟩ := hx62
                  have hyl : x62.length = n := by have := hy1.same.len; omega
                  have hz3 : Up x62 mid e := fun i j h1 h2 h3 => by rw [hy1.out i (.inr h1), hy1.out j (.inr (by omega))]; exact hhf.u3 i j h1 h2 h3
                  have hz4 : Up x62 e b := fun i j h1 h2 h3 => by rw [hy1.out i (.inr (by omega)), hy1.out j (.inr (by omega))]; exact hhf.u4 i j h1 h2 h3
                  refine Ex.regSeq (ExL.pures 2 rfl ?_)
                  refine ExL.lss rfl rfl rfl rfl rfl rfl (fun h63 => ?_) (fun h63 => ?_)
                  · refine ExL.pures 3 rfl ?_
                    refine ExL.lss rfl rfl rfl rfl rfl rfl (fun h64 => ?_) (fun h64 => ?_)
                    · refine ExL.pures 1 rfl ?_
                      refine ExL.nil ?_
                      refine Ex.cond_t rfl ?_
                      refine Ex.region (ExL.pures 5 rfl ?_)
                      refine ExL.op rfl (op_mut rfl rfl rfl (ih x62 mid e b _ _ _ (by omega) (by omega) (by omega) (by omega) (by omega) (by assumption) (by assumption) rfl rfl rfl) (perm_at (i := 0) rfl) (trivial) rfl rfl (fun x65 hx65 => ?_))
                      refine ExL.nil ?_
                      obtain ⟨hz1, hz2⟩ := hx65
                      have hfn := hhf.fin (by omega) (by omega) (by omega) hy1 hy2 hz1 hz2
                      refine MutQ.mk x65 rfl .nil (rfl) 1 [0] (rfl) rfl (⟨(((hx59).mv (by omega) (by omega) (by omega) hcut.lt).wide (by omega) (by omega)).trans hfn.1, hfn.2⟩)
                    · refine ExL.pures 1 rfl ?_
                      refine ExL.nil ?_
                      refine Ex.cond_f rfl ?_
                      refine Ex.skip ?_
                      have hfn := hhf.fin (by omega) (by omega) (by omega) hy1 hy2 (Mv.refl _ _ _) (by rcases Nat.lt_or_ge mid e with g | g; (· rw [show b = e by omega]; exact hz3); (· rw [show mid = e by omega]; exact hz4))
                      refine MutQ.mk x62 rfl .nil (rfl) 1 [0] (rfl) rfl (⟨(((hx59).mv (by omega) (by omega) (by omega) hcut.lt).wide (by omega) (by omega)).trans hfn.1, hfn.2⟩)
                  · refine ExL.pures 5 rfl ?_
                    refine ExL.nil ?_
                    refine Ex.cond_f rfl ?_
                    refine Ex.skip ?_
                    have hfn := hhf.fin (by omega) (by omega) (by omega) hy1 hy2 (Mv.refl _ _ _) (by rcases Nat.lt_or_ge mid e with g | g; (· rw [show b = e by omega]; exact hz3); (· rw [show mid = e by omega]; exact hz4))
                    refine MutQ.mk x62 rfl .nil (rfl) 1 [0] (rfl) rfl (⟨(((hx59).mv (by omega) (by omega) (by omega) hcut.lt).wide (by omega) (by omega)).trans hfn.1, hfn.2⟩)
                · refine ExL.pures 1 rfl ?_
                  refine ExL.nil ?_
                  refine Ex.cond_f rfl ?_
                  refine Ex.skip ?_
                  have hy1 : Mv a mid x59 x59 := Mv.refl _ _ _
                  have hy2 : Up x59 a mid := by rcases Nat.lt_or_ge a q.1 with g | g; (· rw [show mid = q.1 by omega]; exact hhf.u1); (· rw [show a = q.1 by omega]; exact hhf.u2)
                  have hyl : x59.length = n := hxl
                  have hz3 : Up x59 mid e := hhf.u3
                  have hz4 : Up x59 e b := hhf.u4
                  refine Ex.regSeq (ExL.pures 2 rfl ?_)
                  refine ExL.lss rfl rfl rfl rfl rfl rfl (fun h66 => ?_) (fun h66 => ?_)
                  · refine ExL.pures 3 rfl ?_
                    refine ExL.lss rfl rfl rfl rfl rfl rfl (fun h67 => ?_) (fun h67 => ?_)
                    · refine ExL.pures 1 rfl ?_
                      refine ExL.nil ?_
                      refine Ex.cond_t rfl ?_
                      refine Ex.region (ExL.pures 5 rfl ?_)
                      refine ExL.op rfl (op_mut rfl rfl rfl (ih x59 mid e b _ _ _ (by omega) (by omega) (by omega) (by omega) (by omega) (by assumption) (by assumption) rfl rfl rfl) (perm_at (i := 0) rfl) (trivial) rfl rfl (fun x68 hx68 => ?_))
                      refine ExL.nil ?_
                      obtain ⟨hz1, hz2⟩ := hx68
                      have hfn := hhf.fin (by omega) (by omega) (by omega) hy1 hy2 hz1 hz2
                      refine MutQ.mk x68 rfl .nil (rfl) 1 [0] (rfl) rfl (⟨(((hx59).mv (by omega) (by omega) (by omega) hcut.lt).wide (by omega) (by omega)).trans hfn.1, hfn.2⟩)
                    · refine ExL.pures 1 rfl ?_
                      refine ExL.nil ?_
                      refine Ex.cond_f rfl ?_
                      refine Ex.skip ?_
                      have hfn := hhf.fin (by omega) (by omega) (by omega) hy1 hy2 (Mv.refl _ _ _) (by rcases Nat.lt_or_ge mid e with g | g; (· rw [show b = e by omega]; exact hz3); (· rw [show mid = e by omega]; exact hz4))
                      refine MutQ.mk x59 rfl .nil (rfl) 1 [0] (rfl) rfl (⟨(((hx59).mv (by omega) (by omega) (by omega) hcut.lt).wide (by omega) (by omega)).trans hfn.1, hfn.2⟩)
                  · refine ExL.pures 5 rfl ?_
                    refine ExL.nil ?_
                    refine Ex.cond_f rfl ?_
                    refine Ex.skip ?_
                    have hfn := hhf.fin (by omega) (by omega) (by omega) hy1 hy2 (Mv.refl _ _ _) (by rcases Nat.lt_or_ge mid e with g | g; (· rw [show b = e by omega]; exact hz3); (· rw [show mid = e by omega]; exact hz4))
                    refine MutQ.mk x59 rfl .nil (rfl) 1 [0] (rfl) rfl (⟨(((hx59).mv (by omega) (by omega) (by omega) hcut.lt).wide (by omega) (by omega)).trans hfn.1, hfn.2⟩)
              · refine ExL.pures 5 rfl ?_
                refine ExL.nil ?_
                refine Ex.cond_f rfl ?_
                refine Ex.skip ?_
                have hy1 : Mv a mid x59 x59 := Mv.refl _ _ _
                have hy2 : Up x59 a mid := by rcases Nat.lt_or_ge a q.1 with g | g; (· rw [show mid = q.1 by omega]; exact hhf.u1); (· rw [show a = q.1 by omega]; exact hhf.u2)
                have hyl : x59.length = n := hxl
                have hz3 : Up x59 mid e := hhf.u3
                have hz4 : Up x59 e b := hhf.u4
                refine Ex.regSeq (ExL.pures 2 rfl ?_)
                refine ExL.lss rfl rfl rfl rfl rfl rfl (fun h69 => ?_) (fun h69 => ?_)
                · refine ExL.pures 3 rfl ?_
                  refine ExL.lss rfl rfl rfl rfl rfl rfl (fun h70 => ?_) (fun h70 => ?_)
                  · refine ExL.pures 1 rfl ?_
                    refine ExL.nil ?_
                    refine Ex.cond_t rfl ?_
                    refine Ex.region (ExL.pures 5 rfl ?_)
                    refine ExL.op rfl (op_mut rfl rfl rfl (ih x59 mid e b _ _ _ (by omega) (by omega) (by omega) (by omega) (by omega) (by assumption) (by assumption) rfl rfl rfl) (perm_at (i := 0) rfl) (trivial) rfl rfl (fun x71 hx71 => ?_))
                    refine ExL.nil ?_
                    obtain ⟨hz1, hz2⟩ := hx71
                    have hfn := hhf.fin (by omega) (by omega) (by omega) hy1 hy2 hz1 hz2
                    refine MutQ.mk x71 rfl .nil (rfl) 1 [0] (rfl) rfl (⟨(((hx59).mv (by omega) (by omega) (by omega) hcut.lt).wide (by omega) (by omega)).trans hfn.1, hfn.2⟩)
                  · refine ExL.pures 1 rfl ?_
                    refine ExL.nil ?_
                    refine Ex.cond_f rfl ?_
                    refine Ex.skip ?_
                    have hfn := hhf.fin (by omega) (by omega) (by omega) hy1 hy2 (Mv.refl _ _ _) (by rcases Nat.lt_or_ge mid e with g | g; (· rw [show b = e by omega]; exact hz3); (· rw [show mid = e by omega]; exact hz4))
                    refine MutQ.mk x59 rfl .nil (rfl) 1 [0] (rfl) rfl (⟨(((hx59).mv (by omega) (by omega) (by omega) hcut.lt).wide (by omega) (by omega)).trans hfn.1, hfn.2⟩)
                · refine ExL.pures 5 rfl ?_
                  refine ExL.nil ?_
                  refine Ex.cond_f rfl ?_
                  refine Ex.skip ?_
                  have hfn := hhf.fin (by omega) (by omega) (by omega) hy1 hy2 (Mv.refl _ _ _) (by rcases Nat.lt_or_ge mid e with g | g; (· rw [show b = e by omega]; exact hz3); (· rw [show mid = e by omega]; exact hz4))
                  refine MutQ.mk x59 rfl .nil (rfl) 1 [0] (rfl) rfl (⟨(((hx59).mv (by omega) (by omega) (by omega) hcut.lt).wide (by omega) (by omega)).trans hfn.1, hfn.2⟩)
            · refine ExL.pures 1 rfl ?_
              refine ExL.nil ?_
              refine Ex.cond_f rfl ?_
              refine Ex.skip ?_
              refine Ex.seq ?_
              have hhf := hcut.half hu hv (x := l) (Rot.id (by omega) (by omega) (by omega))
              have hxl : l.length = n := by omega
              refine Ex.regSeq (ExL.pures 2 rfl ?_)
              refine ExL.lss rfl rfl rfl rfl rfl rfl (fun h72 => ?_) (fun h72 => ?_)
              · refine ExL.pures 3 rfl ?_
                refine ExL.lss rfl rfl rfl rfl rfl rfl (fun h73 => ?_) (fun h73 => ?_)
                · refine ExL.pures 1 rfl ?_
                  refine ExL.nil ?_
                  refine Ex.cond_t rfl ?_
                  refine Ex.region (ExL.pures 5 rfl ?_)
                  refine ExL.op rfl (op_mut rfl rfl rfl (ih l a q.1 mid _ _ _ (by omega) (by omega) (by omega) (by omega) (by omega) hhf.u1 hhf.u2 rfl rfl rfl) (perm_at (i := 0) rfl) (trivial) rfl rfl (fun x74 hx74 => ?_))
                  refine ExL.nil ?_
                  obtain ⟨hy1, hy2⟩ := hx74
                  have hyl : x74.length = n := by have := hy1.same.len; omega
                  have hz3 : Up x74 mid e := fun i j h1 h2 h3 => by rw [hy1.out i (.inr h1), hy1.out j (.inr (by omega))]; exact hhf.u3 i j h1 h2 h3
                  have hz4 : Up x74 e b := fun i j h1 h2 h3 => by rw [hy1.out i (.inr (by omega)), hy1.out j (.inr (by omega))]; exact hhf.u4 i j h1 h2 h3
                  refine Ex.regSeq (ExL.pures 2 rfl ?_)
                  refine ExL.lss rfl rfl rfl rfl rfl rfl (fun h75 => ?_) (fun h75 => ?_)
                  · refine ExL.pures 3 rfl ?_
                    refine ExL.lss rfl rfl rfl rfl rfl rfl (fun h76 => ?_) (fun h76 => ?_)
                    · refine ExL.pures 1 rfl ?_
                      refine ExL.nil ?_
                      refine Ex.cond_t rfl ?_
                      refine Ex.region (ExL.pures 5 rfl ?_)
                      refine ExL.op rfl (op_mut rfl rfl rfl (ih x74 mid e b _ _ _ (by omega) (by omega) (by omega) (by omega) (by omega) (by assumption) (by assumption) rfl rfl rfl) (perm_at (i := 0) rfl) (trivial) rfl rfl (fun x77 hx77 => ?_))
                      refine ExL.nil ?_
                      obtain ⟨hz1, hz2⟩ := hx77
                      have hfn := hhf.fin (by omega) (by omega) (by omega) hy1 hy2 hz1 hz2
                      refine MutQ.mk x77 rfl .nil (rfl) 1 [0] (rfl) rfl (⟨hfn.1, hfn.2⟩)
                    · refine ExL.pures 1 rfl ?_
                      refine ExL.nil ?_
                      refine Ex.cond_f rfl ?_
                      refine Ex.skip ?_
                      have hfn := hhf.fin (by omega) (by omega) (by omega) hy1 hy2 (Mv.refl _ _ _) (by rcases Nat.lt_or_ge mid e with g | g; (· rw [show b = e by omega]; exact hz3); (· rw [show mid = e by omega]; exact hz4))
                      refine MutQ.mk x74 rfl .nil (rfl) 1 [0] (rfl) rfl (⟨hfn.1, hfn.2⟩)
                  · refine ExL.pures 5 rfl ?_
                    refine ExL.nil ?_
                    refine Ex.cond_f rfl ?_
                    refine Ex.skip ?_
                    have hfn := hhf.fin (by omega) (by omega) (by omega) hy1 hy2 (Mv.refl _ _ _) (by rcases Nat.lt_or_ge mid e with g | g; (· rw [show b = e by omega]; exact hz3); (· rw [show mid = e by omega]; exact hz4))
                    refine MutQ.mk x74 rfl .nil (rfl) 1 [0] (rfl) rfl (⟨hfn.1, hfn.2⟩)
                · refine ExL.pures 1 rfl ?_
                  refine ExL.nil ?_
                  refine Ex.cond_f rfl ?_
                  refine Ex.skip ?_
                  have hy1 : Mv a mid l l := Mv.refl _ _ _
                  have hy2 : Up l a mid := by rcases Nat.lt_or_ge a q.1 with g | g; (· rw [show mid = q.1 by omega]; exact hhf.u1); (· rw [show a = q.1 by omega]; exact hhf.u2)
                  have hyl : l.length = n := hxl
                  have hz3 : Up l mid e := hhf.u3
                  have hz4 : Up l e b := hhf.u4
                  refine Ex.regSeq (ExL.pures 2 rfl ?_)
                  refine ExL.lss rfl rfl rfl rfl rfl rfl (fun h78 => ?_) (fun h78 => ?_)
                  · refine ExL.pures 3 rfl ?_
                    refine ExL.lss rfl rfl rfl rfl rfl rfl (fun h79 => ?_) (fun h79 => ?_)
                    · refine ExL.pures 1 rfl ?_
                      refine ExL.nil ?_
                      refine Ex.cond_t rfl ?_
                      refine Ex.region (ExL.pures 5 rfl ?_)
                      refine ExL.op rfl (op_mut rfl rfl rfl (ih l mid e b _ _ _ (by omega) (by omega) (by omega) (by omega) (by omega) (by assumption) (by assumption) rfl rfl rfl) (perm_at (i := 0) rfl) (trivial) rfl rfl (fun x80 hx80 => ?_))
                      refine ExL.nil ?_
                      obtain ⟨hz1, hz2⟩ := hx80
                      have hfn := hhf.fin (by omega) (by omega) (by omega) hy1 hy2 hz1 hz2
                      refine MutQ.mk x80 rfl .nil (rfl) 1 [0] (rfl) rfl (⟨hfn.1, hfn.2⟩)
                    · refine ExL.pures 1 rfl ?_
                      refine ExL.nil ?_
                      refine Ex.cond_f rfl ?_
                      refine Ex.skip ?_
                      have hfn := hhf.fin (by omega) (by omega) (by omega) hy1 hy2 (Mv.refl _ _ _) (by rcases Nat.lt_or_ge mid e with g | g; (· rw [show b = e by omega]; exact hz3); (· rw [show mid = e by omega]; exact hz4))
                      refine MutQ.mk l rfl .nil (rfl) 1 [0] (rfl) rfl (⟨hfn.1, hfn.2⟩)
                  · refine ExL.pures 5 rfl ?_
                    refine ExL.nil ?_
                    refine Ex.cond_f rfl ?_
                    refine Ex.skip ?_
                    have hfn := hhf.fin (by omega) (by omega) (by omega) hy1 hy2 (Mv.refl _ _ _) (by rcases Nat.lt_or_ge mid e with g | g; (· rw [show b = e by omega]; exact hz3); (· rw [show mid = e by omega]; exact hz4))
                    refine MutQ.mk l rfl .nil (rfl) 1 [0] (rfl) rfl (⟨hfn.1, hfn.2⟩)
              · refine ExL.pures 5 rfl ?_
                refine ExL.nil ?_
                refine Ex.cond_f rfl ?_
                refine Ex.skip ?_
                have hy1 : Mv a mid l l := Mv.refl _ _ _
                have hy2 : Up l a mid := by rcases Nat.lt_or_ge a q.1 with g | g; (· rw [show mid = q.1 by omega]; exact hhf.u1); (· rw [show a = q.1 by omega]; exact hhf.u2)
                have hyl : l.length = n := hxl
                have hz3 : Up l mid e := hhf.u3
                have hz4 : Up l e b := hhf.u4
                refine Ex.regSeq (ExL.pures 2 rfl ?_)
                refine ExL.lss rfl rfl rfl rfl rfl rfl (fun h81 => ?_) (fun h81 => ?_)
                · refine ExL.pures 3 rfl ?_
                  refine ExL.lss rfl rfl rfl rfl rfl rfl (fun h82 => ?_) (fun h82 => ?_)
                  · refine ExL.pures 1 rfl ?_
                    refine ExL.nil ?_
                    refine Ex.cond_t rfl ?_
                    refine Ex.region (ExL.pures 5 rfl ?_)
                    refine ExL.op rfl (op_mut rfl rfl rfl (ih l mid e b _ _ _ (by omega) (by omega) (by omega) (by omega) (by omega) (by assumption) (by assumption) rfl rfl rfl) (perm_at (i := 0) rfl) (trivial) rfl rfl (fun x83 hx83 => ?_))
                    refine ExL.nil ?_
                    obtain ⟨hz1, hz2⟩ := hx83
                    have hfn := hhf.fin (by omega) (by omega) (by omega) hy1 hy2 hz1 hz2
                    refine MutQ.mk x83 rfl .nil (rfl) 1 [0] (rfl) rfl (⟨hfn.1, hfn.2⟩)
                  · refine ExL.pures 1 rfl ?_
                    refine ExL.nil ?_
                    refine Ex.cond_f rfl ?_
                    refine Ex.skip ?_
                    have hfn := hhf.fin (by omega) (by omega) (by omega) hy1 hy2 (Mv.refl _ _ _) (by rcases Nat.lt_or_ge mid e with g | g; (· rw [show b = e by omega]; exact hz3); (· rw [show mid = e by omega]; exact hz4))
                    refine MutQ.mk l rfl .nil (rfl) 1 [0] (rfl) rfl (⟨hfn.1, hfn.2⟩)
                · refine ExL.pures 5 rfl ?_
                  refine ExL.nil ?_
                  refine Ex.cond_f rfl ?_
                  refine Ex.skip ?_
                  have hfn := hhf.fin (by omega) (by omega) (by omega) hy1 hy2 (Mv.refl _ _ _) (by rcases Nat.lt_or_ge mid e with g | g; (· rw [show b = e by omega]; exact hz3); (· rw [show mid = e by omega]; exact hz4))
                  refine MutQ.mk l rfl .nil (rfl) 1 [0] (rfl) rfl (⟨hfn.1, hfn.2⟩)
          · refine ExL.pures 5 rfl ?_
            refine ExL.nil ?_
            refine Ex.cond_f rfl ?_
            refine Ex.skip ?_
            refine Ex.seq ?_
            have hhf := hcut.half hu hv (x := l) (Rot.id (by omega) (by omega) (by omega))
            have hxl : l.length = n := by omega
            refine Ex.regSeq (ExL.pures 2 rfl ?_)
            refine ExL.lss rfl rfl rfl rfl rfl rfl (fun h84 => ?_) (fun h84 => ?_)
            · refine ExL.pures 3 rfl ?_
              refine ExL.lss rfl rfl rfl rfl rfl rfl (fun h85 => ?_) (fun h85 => ?_)
              · refine ExL.pures 1 rfl ?_
                refine ExL.nil ?_
                refine Ex.cond_t rfl ?_
                refine Ex.region (ExL.pures 5 rfl ?_)
                refine ExL.op rfl (op_mut rfl rfl rfl (ih l a q.1 mid _ _ _ (by omega) (by omega) (by omega) (by omega) (by omega) hhf.u1 hhf.u2 rfl rfl rfl) (perm_at (i := 0) rfl) (trivial) rfl rfl (fun x86 hx86 => ?_))
                refine ExL.nil ?_
                obtain ⟨hy1, hy2⟩ := hx86
                have hyl : x86.length = n := by have := hy1.same.len; omega
                have hz3 : Up x86 mid e := fun i j h1 h2 h3 => by rw [hy1.out i (.inr h1), hy1.out j (.inr (by omega))]; exact hhf.u3 i j h1 h2 h3
                have hz4 : Up x86 e b := fun i j h1 h2 h3 => by rw [hy1.out i (.inr (by omega)), hy1.out j (.inr (by omega))]; exact hhf.u4 i j h1 h2 h3
                refine Ex.regSeq (ExL.pures 2 rfl ?_)
                refine ExL.lss rfl rfl rfl rfl rfl rfl (fun h87 => ?_) (fun h87 => ?_)
                · refine ExL.pures 3 rfl ?_
                  refine ExL.lss rfl rfl rfl rfl rfl rfl (fun h88 => ?_) (fun h88 => ?_)
                  · refine ExL.pures 1 rfl ?_
                    refine ExL.nil ?_
                    refine Ex.cond_t rfl ?_
                    refine Ex.region (ExL.pures 5 rfl ?_)
                    refine ExL.op rfl (op_mut rfl rfl rfl (ih x86 mid e b _ _ _ (by omega) (by omega) (by omega) (by omega) (by omega) (by assumption) (by assumption) rfl rfl rfl) (perm_at (i := 0) rfl) (trivial) rfl rfl (fun x89 hx89 => ?_))
                    refine ExL.nil ?_
                    obtain ⟨hz1, hz2⟩ := hx89
                    have hfn := hhf.fin (by omega) (by omega) (by omega) hy1 hy2 hz1 hz2
                    refine MutQ.mk x89 rfl .nil (rfl) 1 [0] (rfl) rfl (⟨hfn.1, hfn.2⟩)
                  · refine ExL.pures 1 rfl ?_
                    refine ExL.nil ?_
                    refine Ex.cond_f rfl ?_
                    refine Ex.skip ?_
                    have hfn := hhf.fin (by omega) (by omega) (by omega) hy1 hy2 (Mv.refl _ _ _) (by rcases Nat.lt_or_ge mid e with g | g; (· rw [show b = e by omega]; exact hz3); (· rw [show mid = e by omega]; exact hz4))
                    refine MutQ.mk x86 rfl .nil (rfl) 1 [0] (rfl) rfl (⟨hfn.1, hfn.2⟩)
                · refine ExL.pures 5 rfl ?_
                  refine ExL.nil ?_
                  refine Ex.cond_f rfl ?_
                  refine Ex.skip ?_
                  have hfn := hhf.fin (by omega) (by omega) (by omega) hy1 hy2 (Mv.refl _ _ _) (by rcases Nat.lt_or_ge mid e with g | g; (· rw [show b = e by omega]; exact hz3); (· rw [show mid = e by omega]; exact hz4))
                  refine MutQ.mk x86 rfl .nil (rfl) 1 [0] (rfl) rfl (⟨hfn.1, hfn.2⟩)
              · refine ExL.pures 1 rfl ?_
                refine ExL.nil ?_
                refine Ex.cond_f rfl ?_
                refine Ex.skip ?_
                have hy1 : Mv a mid l l := Mv.refl _ _ _
                have hy2 : Up l a mid := by rcases Nat.lt_or_ge a q.1 with g | g; (· rw [show mid = q.1 by omega]; exact hhf.u1); (· rw [show a = q.1 by omega]; exact hhf.u2)
                have hyl : l.length = n := hxl
                have hz3 : Up l mid e := hhf.u3
                have hz4 : Up l e b := hhf.u4
                refine Ex.regSeq (ExL.pures 2 rfl ?_)
                refine ExL.lss rfl rfl rfl rfl rfl rfl (fun h90 => ?_) (fun h90 => ?_)
                · refine ExL.pures 3 rfl ?_
                  refine ExL.lss rfl rfl rfl rfl rfl rfl (fun h91 => ?_) (fun h91 => ?_)
                  · refine ExL.pures 1 rfl ?_
                    refine ExL.nil ?_
                    refine Ex.cond_t rfl ?_
                    refine Ex.region (ExL.pures 5 rfl ?_)
                    refine ExL.op rfl (op_mut rfl rfl rfl (ih l mid e b _ _ _ (by omega) (by omega) (by omega) (by omega) (by omega) (by assumption) (by assumption) rfl rfl rfl) (perm_at (i := 0) rfl) (trivial) rfl rfl (fun x92 hx92 => ?_))
                    refine ExL.nil ?_
                    obtain ⟨hz1, hz2⟩ := hx92
                    have hfn := hhf.fin (by omega) (by omega) (by omega) hy1 hy2 hz1 hz2
                    refine MutQ.mk x92 rfl .nil (rfl) 1 [0] (rfl) rfl (⟨hfn.1, hfn.2⟩)
                  · refine ExL.pures 1 rfl ?_
                    refine ExL.nil ?_
                    refine Ex.cond_f rfl ?_
                    refine Ex.skip ?_
                    have hfn := hhf.fin (by omega) (by omega) (by omega) hy1 hy2 (Mv.refl _ _ _) (by rcases Nat.lt_or_ge mid e with g | g; (· rw [show b = e by omega]; exact hz3); (· rw [show mid = e by omega]; exact hz4))
                    refine MutQ.mk l rfl .nil (rfl) 1 [0] (rfl) rfl (⟨hfn.1, hfn.2⟩)
                · refine ExL.pures 5 rfl ?_
                  refine ExL.nil ?_
                  refine Ex.cond_f rfl ?_
                  refine Ex.skip ?_
                  have hfn := hhf.fin (by omega) (by omega) (by omega) hy1 hy2 (Mv.refl _ _ _) (by rcases Nat.lt_or_ge mid e with g | g; (· rw [show b = e by omega]; exact hz3); (· rw [show mid = e by omega]; exact hz4))
                  refine MutQ.mk l rfl .nil (rfl) 1 [0] (rfl) rfl (⟨hfn.1, hfn.2⟩)
            · refine ExL.pures 5 rfl ?_
              refine ExL.nil ?_
              refine Ex.cond_f rfl ?_
              refine Ex.skip ?_
              have hy1 : Mv a mid l l := Mv.refl _ _ _
              have hy2 : Up l a mid := by rcases Nat.lt_or_ge a q.1 with g | g; (· rw [show mid = q.1 by omega]; exact hhf.u1); (· rw [show a = q.1 by omega]; exact hhf.u2)
              have hyl : l.length = n := hxl
              have hz3 : Up l mid e := hhf.u3
              have hz4 : Up l e b := hhf.u4
              refine Ex.regSeq (ExL.pures 2 rfl ?_)
              refine ExL.lss rfl rfl rfl rfl rfl rfl (fun h93 => ?_) (fun h93 => ?_)
              · refine ExL.pures 3 rfl ?_
                refine ExL.lss rfl rfl rfl rfl rfl rfl (fun h94 => ?_) (fun h94 => ?_)
                · refine ExL.pures 1 rfl ?_
                  refine ExL.nil ?_
                  refine Ex.cond_t rfl ?_
                  refine Ex.region (ExL.pures 5 rfl ?_)
                  refine ExL.op rfl (op_mut rfl rfl rfl (ih l mid e b _ _ _ (by omega) (by omega) (by omega) (by omega) (by omega) (by assumption) (by assumption) rfl rfl rfl) (perm_at (i := 0) rfl) (trivial) rfl rfl (fun x95 hx95 => ?_))
                  refine ExL.nil ?_
                  obtain ⟨hz1, hz2⟩ := hx95
                  have hfn := hhf.fin (by omega) (by omega) (by omega) hy1 hy2 hz1 hz2
                  refine MutQ.mk x95 rfl .nil (rfl) 1 [0] (rfl) rfl (⟨hfn.1, hfn.2⟩)
                · refine ExL.pures 1 rfl ?_
                  refine ExL.nil ?_
                  refine Ex.cond_f rfl ?_
                  refine Ex.skip ?_
                  have hfn := hhf.fin (by omega) (by omega) (by omega) hy1 hy2 (Mv.refl _ _ _) (by rcases Nat.lt_or_ge mid e with g | g; (· rw [show b = e by omega]; exact hz3); (· rw [show mid = e by omega]; exact hz4))
                  refine MutQ.mk l rfl .nil (rfl) 1 [0] (rfl) rfl (⟨hfn.1, hfn.2⟩)
              · refine ExL.pures 5 rfl ?_
                refine ExL.nil ?_
                refine Ex.cond_f rfl ?_
                refine Ex.skip ?_
                have hfn := hhf.fin (by omega) (by omega) (by omega) hy1 hy2 (Mv.refl _ _ _) (by rcases Nat.lt_or_ge mid e with g | g; (· rw [show b = e by omega]; exact hz3); (· rw [show mid = e by omega]; exact hz4))
                refine MutQ.mk l rfl .nil (rfl) 1 [0] (rfl) rfl (⟨hfn.1, hfn.2⟩)
theorem c_symMerge (A : Addr) (n c : Nat) (hn2 : n ≤ 1000) (N : Nat) : ∀ (l : List VP) (a m b : Nat) (a_ m_ b_ : Int), l.length = n → a < m → m < b → b ≤ n → b - a = N → Up l a m → Up l m b → a_ = a → m_ = m → b_ = b → Mut Tryz.prog 78 [.slice (some A) n c, .int .i64 a_, .int .i64 m_, .int .i64 b_, .func (.func 44) #[] #[]] [.row (.slice (some A) n c) 39 2 n (l.flatMap encP)] (fun base w0 F => True) (fun x : List VP => .tuple #[]) (fun x => [.row (.slice (some A) n c) 39 2 n (x.flatMap encP)]) (fun x => Mv a b l x ∧ Up x a b) := by
  induction N using Nat.strongRecOn with
  | ind N ih =>
    intro l a m b a_ m_ b_ hl h1 h2 h3 hN hu hv ha hm hb
    subst ha hm hb
    exact c_symStep N l A n c ⟨hl, hn2⟩ a m b ⟨h1, h2, h3⟩ hu hv (fun l a m b a_ m_ b_ e1 e2 e3 e4 e5 e6 e7 e8 e9 e10 => ih (b - a) (hN ▸ e5) l a m b a_ m_ b_ e1 e2 e3 e4 rfl e6 e7 e8 e9 e10) hN
end Go.Proofs.YtniimollalcjnaaGreatDoor

/- What these functions of the program hand back, each proved by walking its operations. -/
set_option linter.unusedVariables false
set_option linter.unusedSimpArgs false
set_option maxRecDepth 4000
namespace Go.Proofs.YtniimollalcjnaaGreatDoor
open Go Go.Sx Go.RowKit Go.W Go.Proofs
attribute [local irreducible] Ex ExL ExD Op1 Free RetQ MutQ Reads CellO SegO LoadsAs
theorem c_insertionE (l : List VP) (A : Addr) (n c : Nat) (hn : l.length = n ∧ n ≤ 1000) (a b : Nat) (hab : a ≤ b ∧ b ≤ n) (a_ b_ : Int) (ha : a_ = a) (hb : b_ = b) : Mut Tryz.prog 77 [.slice (some A) n c, .int .i64 a_, .int .i64 b_, .func (.func 44) #[] #[]] [.row (.slice (some A) n c) 39 2 n (l.flatMap encP)] (fun base w0 F => True) (fun x : List VP => .tuple #[]) (fun x => [.row (.slice (some A) n c) 39 2 n (x.flatMap encP)]) (fun x => Mv a b l x ∧ Up x a b) := by
  subst ha hb; exact c_insertion l A n c hn a b hab
theorem e_62 : Enters Tryz.prog 62 := Enters.of Tryz.func62 rfl
theorem c_stable (l : List VP) (A : Addr) (n c : Nat) (hn : l.length = n ∧ n ≤ 1000) (hn3 : n ≤ 120) : Mut Tryz.prog 62 [.slice (some A) n c, .int .i64 (n : Int), .func (.func 44) #[] #[]] [.row (.slice (some A) n c) 39 2 n (l.flatMap encP)] (fun base w0 F => True) (fun x : List VP => .tuple #[]) (fun x => [.row (.slice (some A) n c) 39 2 n (x.flatMap encP)]) (fun x => Same l x ∧ Up x 0 n) := by
  refine Mut.of e_62 Tryz.func62 rfl Tryz.ntmps62 rfl rfl (fun base w0 F hfr => ?_)
  obtain ⟨hn1, hn2⟩ := hn
  have hm0 : maxLen = 9223372036854775807 := rfl
  refine Ex.regSeq (ExL.pures 1 rfl ?_)
  refine ExL.nil ?_
  refine Ex.regSeq (ExL.pures 3 rfl ?_)
  refine ExL.nil ?_
  refine Ex.seq ?_
  refine Ex.block ?_
  refine Ex.loopK (X := Nat × List VP) (fun q => [(7, .int .i64 (q.1 : Int)), (8, .int .i64 ((q.1 : Int) + 20))]) (fun q => [.row (.slice (some A) n c) 39 2 n (q.2.flatMap encP)]) (fun q => B1 l n q.1 q.2) (fun q => n - q.1) (0, l) [(0, _), (1, _), (2, _), (6, _)] (F) 1 [0] ⟨agI (by first | rfl | omega | (dsimp only; omega) | (push_cast; omega)), agI (by first | rfl | omega | (dsimp only; omega) | (push_cast; omega)), trivial⟩ ⟨rfl, rfl, rfl, rfl, trivial⟩ (rfl) rfl B1.zero (fun q hI => ?_)
  have hI : B1 l n q.1 q.2 := hI
  have h_an := hI.an
  have hlr := hI.same.len
  refine Ex.seq ?_
  refine Ex.regSeq (ExL.pures 2 rfl ?_)
  refine ExL.leq rfl rfl rfl rfl rfl rfl (fun h1 => ?_) (fun h1 => ?_)
  · refine ExL.nil ?_
    refine Ex.cond_t rfl ?_
    refine Ex.skip ?_
    refine Ex.block ?_
    refine Ex.regSeq (ExL.pures 4 rfl ?_)
    refine ExL.op rfl (op_mut rfl rfl rfl (c_insertionE q.2 A n c (by constructor <;> omega) q.1 (q.1 + 20) (by constructor <;> omega) _ _ (by omega) (by omega)) (perm_at (i := 0) rfl) (trivial) rfl rfl (fun x2 hx2 => ?_))
    refine ExL.nil ?_
    refine Ex.regSeq (ExL.pures 2 rfl ?_)
    refine ExL.nil ?_
    refine Ex.region (ExL.pures 2 rfl ?_)
    refine ExL.free (by first | exact fr_add64 rfl rfl rfl (by omega) | exact fr_add rfl rfl rfl) rfl rfl rfl ?_
    refine ExL.pures 1 rfl ?_
    refine ExL.nil ?_
    refine Hand.mk ((q.1 + 20, x2)) 1 [0] ⟨agI (by first | rfl | omega | (dsimp only; omega) | (push_cast; omega)), agI (by first | rfl | omega | (dsimp only; omega) | (push_cast; omega)), trivial⟩ ⟨rfl, rfl, rfl, rfl, trivial⟩ (rfl) rfl ((hI.step (by omega) hx2.1 hx2.2)) ((by first | omega | (dsimp only; omega)))
  · refine ExL.nil ?_
    refine Ex.cond_f rfl ?_
    refine Ex.exit ?_
    refine Ex.regSeq (ExL.pures 4 rfl ?_)
    refine ExL.op rfl (op_mut rfl rfl rfl (c_insertionE q.2 A n c (by constructor <;> omega) q.1 n (by constructor <;> omega) _ _ (by omega) (by omega)) (perm_at (i := 0) rfl) (trivial) rfl rfl (fun x3 hx3 => ?_))
    refine ExL.nil ?_
    refine Ex.block ?_
    obtain ⟨hs1, hs2⟩ := hI.fin (by omega) hx3.1 hx3.2
    refine Ex.loopK (X := Nat × List VP) (fun r => [(6, .int .i64 (r.1 : Int))]) (fun r => [.row (.slice (some A) n c) 39 2 n (r.2.flatMap encP)]) (fun r => OkB r.1 ∧ Same l r.2 ∧ Bs r.1 r.2 0 n) (fun r => n - r.1) (20, x3) [(0, _), (1, _), (2, _)] (F) 1 [0] ⟨agI (by first | rfl | omega | (dsimp only; omega) | (push_cast; omega)), trivial⟩ ⟨rfl, rfl, rfl, trivial⟩ (rfl) rfl ⟨.inl rfl, hs1, hs2⟩ (fun r hI => ?_)
    have hI : OkB r.1 ∧ Same l r.2 ∧ Bs r.1 r.2 0 n := hI
    obtain ⟨hB, hsm, hbs⟩ := hI
    have hB0 : 20 ≤ r.1 ∧ r.1 ≤ 160 := by unfold OkB at hB; omega
    have hlr := hsm.len
    refine Ex.seq ?_
    refine Ex.regSeq (ExL.pures 2 rfl ?_)
    refine ExL.lss rfl rfl rfl rfl rfl rfl (fun h4 => ?_) (fun h4 => ?_)
    · refine ExL.nil ?_
      refine Ex.cond_t rfl ?_
      refine Ex.skip ?_
      refine Ex.block ?_
      refine Ex.regSeq (ExL.pures 1 rfl ?_)
      refine ExL.free (by first | exact fr_mul64 rfl rfl rfl (by omega) | exact fr_mul rfl rfl rfl) rfl rfl rfl ?_
      refine ExL.pures 2 rfl ?_
      refine ExL.nil ?_
      refine Ex.seq ?_
      refine Ex.block ?_
      refine Ex.loopK (X := Nat × List VP) (fun z => [(7, .int .i64 (z.1 : Int)), (8, .int .i64 ((z.1 : Int) + 2 * r.1))]) (fun z => [.row (.slice (some A) n c) 39 2 n (z.2.flatMap encP)]) (fun z => B2 l n r.1 z.1 z.2) (fun z => n - z.1) (0, r.2) [(0, _), (1, _), (2, _), (6, _)] (F) 1 [0] ⟨agI (by first | rfl | omega | (dsimp only; omega) | (push_cast; omega)), agI (by first | rfl | omega | (dsimp only; omega) | (push_cast; omega)), trivial⟩ ⟨rfl, rfl, rfl, rfl, trivial⟩ (rfl) rfl (B2.zero hsm hbs) (fun z hI => ?_)
      have hI : B2 l n r.1 z.1 z.2 := hI
      have h_an := hI.an
      have hlz := hI.same.len
      refine Ex.seq ?_
      refine Ex.regSeq (ExL.pures 2 rfl ?_)
      refine ExL.leq rfl rfl rfl rfl rfl rfl (fun h5 => ?_) (fun h5 => ?_)
      · refine ExL.nil ?_
        refine Ex.cond_t rfl ?_
        refine Ex.skip ?_
        refine Ex.block ?_
        have hup := hI.ups (b := z.1 + 2 * r.1) hB (by omega) (by omega)
        rw [show min (z.1 + r.1) (z.1 + 2 * r.1) = z.1 + r.1 by omega] at hup
        refine Ex.regSeq (ExL.pures 4 rfl ?_)
        refine ExL.free (by first | exact fr_add64 rfl rfl rfl (by omega) | exact fr_add rfl rfl rfl) rfl rfl rfl ?_
        refine ExL.pures 2 rfl ?_
        refine ExL.op rfl (op_mut rfl rfl rfl (c_symMerge A n c (by omega) _ z.2 z.1 (z.1 + r.1) (z.1 + 2 * r.1) _ _ _ (by omega) (by omega) (by omega) (by omega) rfl hup.1 hup.2 (by omega) (by omega) (by omega)) (perm_at (i := 0) rfl) (trivial) rfl rfl (fun x6 hx6 => ?_))
        refine ExL.nil ?_
        refine Ex.regSeq (ExL.pures 2 rfl ?_)
        refine ExL.nil ?_
        refine Ex.region (ExL.pures 2 rfl ?_)
        refine ExL.free (by first | exact fr_mul64 rfl rfl rfl (by omega) | exact fr_mul rfl rfl rfl) rfl rfl rfl ?_
        refine ExL.free (by first | exact fr_add64 rfl rfl rfl (by omega) | exact fr_add rfl rfl rfl) rfl rfl rfl ?_
        refine ExL.pures 1 rfl ?_
        refine ExL.nil ?_
        refine Hand.mk ((z.1 + 2 * r.1, x6)) 1 [0] ⟨agI (by first | rfl | omega | (dsimp only; omega) | (push_cast; omega)), agI (by first | rfl | omega | (dsimp only; omega) | (push_cast; omega)), trivial⟩ ⟨rfl, rfl, rfl, rfl, trivial⟩ (rfl) rfl ((hI.step hB (by omega) hx6.1 hx6.2)) ((by first | omega | (dsimp only; omega)))
      · refine ExL.nil ?_
        refine Ex.cond_f rfl ?_
        refine Ex.exit ?_
        refine Ex.seq ?_
        refine Ex.regSeq (ExL.pures 2 rfl ?_)
        refine ExL.free (by first | exact fr_add64 rfl rfl rfl (by omega) | exact fr_add rfl rfl rfl) rfl rfl rfl ?_
        refine ExL.pures 1 rfl ?_
        refine ExL.nil ?_
        refine Ex.regSeq (ExL.pures 2 rfl ?_)
        refine ExL.lss rfl rfl rfl rfl rfl rfl (fun h7 => ?_) (fun h7 => ?_)
        · refine ExL.nil ?_
          refine Ex.cond_t rfl ?_
          have hup := hI.ups (b := n) hB (by omega) (by omega)
          rw [show min (z.1 + r.1) n = z.1 + r.1 by omega] at hup
          refine Ex.region (ExL.pures 5 rfl ?_)
          refine ExL.op rfl (op_mut rfl rfl rfl (c_symMerge A n c (by omega) _ z.2 z.1 (z.1 + r.1) n _ _ _ (by omega) (by omega) (by omega) (by omega) rfl hup.1 hup.2 (by omega) (by omega) (by omega)) (perm_at (i := 0) rfl) (trivial) rfl rfl (fun x8 hx8 => ?_))
          refine ExL.nil ?_
          refine Ex.region (ExL.pures 1 rfl ?_)
          refine ExL.free (by first | exact fr_mul64 rfl rfl rfl (by omega) | exact fr_mul rfl rfl rfl) rfl rfl rfl ?_
          refine ExL.pures 1 rfl ?_
          refine ExL.nil ?_
          refine Hand.mk ((2 * r.1, x8)) 1 [0] ⟨agI (by first | rfl | omega | (dsimp only; omega) | (push_cast; omega)), trivial⟩ ⟨rfl, rfl, rfl, trivial⟩ (rfl) rfl (⟨hB.two (n := n) (by omega) (by omega), (hI.last hB (by omega) hx8.1 hx8.2).1, (hI.last hB (by omega) hx8.1 hx8.2).2⟩) ((by first | omega | (dsimp only; omega)))
        · refine ExL.nil ?_
          refine Ex.cond_f rfl ?_
          refine Ex.skip ?_
          refine Ex.region (ExL.pures 1 rfl ?_)
          refine ExL.free (by first | exact fr_mul64 rfl rfl rfl (by omega) | exact fr_mul rfl rfl rfl) rfl rfl rfl ?_
          refine ExL.pures 1 rfl ?_
          refine ExL.nil ?_
          refine Hand.mk ((2 * r.1, z.2)) 1 [0] ⟨agI (by first | rfl | omega | (dsimp only; omega) | (push_cast; omega)), trivial⟩ ⟨rfl, rfl, rfl, trivial⟩ (rfl) rfl (⟨hB.two (n := n) (by omega) (by omega), (hI.none hB (by omega)).1, (hI.none hB (by omega)).2⟩) ((by first | omega | (dsimp only; omega)))
    · refine ExL.nil ?_
      refine Ex.cond_f rfl ?_
      refine Ex.exit ?_
      refine MutQ.mk r.2 rfl .nil (rfl) 1 [0] (rfl) rfl (⟨hsm, hbs.all (by omega) hB⟩)
end Go.Proofs.YtniimollalcjnaaGreatDoor

/- What these functions of the program hand back, each proved by walking its operations. -/
set_option linter.unusedVariables false
set_option linter.unusedSimpArgs false
set_option maxRecDepth 4000
namespace Go.Proofs.YtniimollalcjnaaGreatDoor
open Go Go.Sx Go.RowKit Go.W Go.Proofs
attribute [local irreducible] Ex ExL ExD Op1 Free RetQ MutQ Reads CellO SegO LoadsAs
theorem eq_TotP (a b : VP) : EqOk Tryz.prog 10000 39 (.agg (encP a).toArray) (.agg (encP b).toArray) (likeP a b) := by
  refine EqOk.as (EqOk.struct (d := 9999) rfl rfl (by kernel_rfl) (EqFs.one rfl rfl rfl rfl rfl (EqOk.int rfl) (EqFs.one rfl rfl rfl rfl rfl (EqOk.int rfl) EqFs.nil))) ?_
  unfold likeP; simp [Bool.decide_and]
theorem e_46 : Enters Tryz.prog 46 := Enters.of Tryz.func46 rfl
set_option maxHeartbeats 800000 in
theorem c_Compact (l : List VP) (A : Option Addr) (n c : Nat) (hn : l.length = n) (hn2 : n ≤ 1000) : Mut Tryz.prog 46 [.slice A n c] [.row (.slice A n c) 39 2 n (l.flatMap encP)] (fun base w0 F => True) (fun x : Unit => .slice A (cpt l).length c) (fun x => [.row (.slice A (cpt l).length c) 39 2 (cpt l).length ((cpt l).flatMap encP)]) (fun x => True) := by
  refine Mut.of e_46 Tryz.func46 rfl Tryz.ntmps46 rfl rfl (fun base w0 F hfr => ?_)
  refine Ex.know (row_cap (i := 0) rfl) (fun hnc => ?_)
  have hm0 : maxLen = 9223372036854775807 := rfl
  refine Ex.regSeq (ExL.pures 1 rfl ?_)
  refine ExL.nil ?_
  refine Ex.seq ?_
  refine Ex.regSeq (ExL.pures 2 rfl ?_)
  refine ExL.lss rfl rfl rfl rfl rfl rfl (fun h1 => ?_) (fun h1 => ?_)
  · refine ExL.nil ?_
    refine Ex.cond_t rfl ?_
    have hcs : cpt l = l := cpt_short (by omega)
    refine Ex.regSeq (ExL.pures 2 rfl ?_)
    refine ExL.nil ?_
    refine Ex.ret ?_
    refine MutQ.mk () rfl (.tmp rfl .nil) (by first | rfl | (rw [hcs, hn]; rfl)) 1 [0] (by first | rfl | (rw [hcs, hn]; rfl)) rfl (trivial)
  · refine ExL.nil ?_
    refine Ex.cond_f rfl ?_
    refine Ex.skip ?_
    refine Ex.seq ?_
    refine Ex.regSeq (ExL.pures 1 rfl ?_)
    refine ExL.nil ?_
    refine Ex.block ?_
    refine Ex.loopK (X := Nat) (fun k => [(3, .int .i64 k)]) (fun k => []) (fun k => 1 ≤ k ∧ k ≤ n ∧ cpt (l.take k) = l.take k) (fun k => n - k) 1 [(0, _)] (_ :: F) 1 [0] ⟨rfl, trivial⟩ ⟨rfl, trivial⟩ (rfl) rfl ⟨Nat.le_refl _, by omega, cpt_one (by omega)⟩ (fun k hI => ?_)
    have hI : 1 ≤ k ∧ k ≤ n ∧ cpt (l.take k) = l.take k := hI
    obtain ⟨hk1, hk, hck⟩ := hI
    refine Ex.seq ?_
    refine Ex.regSeq (ExL.pures 3 rfl ?_)
    refine ExL.lss rfl rfl rfl rfl rfl rfl (fun h2 => ?_) (fun h2 => ?_)
    · refine ExL.nil ?_
      refine Ex.cond_t rfl ?_
      refine Ex.skip ?_
      refine Ex.seq ?_
      refine Ex.block ?_
      refine Ex.drawSeqM rfl ?_
      refine ExD.take (i := 0) rfl (by kernel_rfl) (pureVal_ok rfl) ((List.Sublist.refl _)) rfl rfl rfl ?_
      refine ExD.take (i := 1) rfl (by kernel_rfl) (pureVal_ok rfl) ((List.Sublist.refl _)) rfl rfl rfl ?_
      refine ExD.take (i := 2) rfl (by kernel_rfl) (fr_indexAddrR (sz := 2) 0 rfl rfl rfl rfl rfl rfl (by omega)) ((List.Sublist.refl _)) rfl rfl rfl ?_
      refine ExD.take (i := 3) rfl (by kernel_rfl) (fr_loadN rfl rfl rfl rfl rfl (segJ (k) (Reads.row (i := 0) rfl) encP_len rfl zP (by omega) (by omega))) ((List.Sublist.refl _)) rfl rfl rfl ?_
      refine ExD.take (i := 4) rfl (by kernel_rfl) (pureVal_ok rfl) ((List.Sublist.refl _)) rfl rfl rfl ?_
      refine ExD.take (i := 5) rfl (by kernel_rfl) (pureVal_ok rfl) ((List.Sublist.refl _)) rfl rfl rfl ?_
      refine ExD.take (i := 6) rfl (by kernel_rfl) (Free.val (((k - 1 : Nat) : Int)) (fr_sub64 rfl rfl rfl (by omega)) (by omega)) ((List.Sublist.refl _)) rfl rfl rfl ?_
      refine ExD.take (i := 7) rfl (by kernel_rfl) (fr_indexAddrR (sz := 2) 0 rfl rfl rfl rfl rfl rfl (by omega)) ((List.Sublist.refl _)) rfl rfl rfl ?_
      refine ExD.take (i := 8) rfl (by kernel_rfl) (fr_loadN rfl rfl rfl rfl rfl (segJ ((k - 1)) (Reads.row (i := 0) rfl) encP_len rfl zP (by omega) (by omega))) ((List.Sublist.refl _)) rfl rfl rfl ?_
      refine ExD.take (i := 9) rfl (by kernel_rfl) (fr_eql_rec (eq_TotP (l.getD k zP) (l.getD (k - 1) zP)) rfl rfl rfl (by kernel_rfl)) ((List.Sublist.refl _)) rfl rfl rfl ?_
      refine ExD.done (by kernel_rfl) ?_
      refine Ex.cond rfl (fun hb3 => ?_) (fun hb3 => ?_)
      · refine Ex.regSeq (ExL.pures 2 rfl ?_)
        refine ExL.free (fr_slice_l (sz := 2) k rfl rfl rfl rfl rfl rfl (by omega)) rfl rfl rfl ?_
        refine ExL.pures 1 rfl ?_
        refine ExL.nil ?_
        refine Ex.seq ?_
        refine Ex.regSeq (ExL.pures 1 rfl ?_)
        refine ExL.nil ?_
        refine Ex.block ?_
        have hlk0 : likeP (l.getD (k + 1 - 1 - 1) zP) (l.getD (k + 1 - 1) zP) = true := by rw [like_sym]; first | assumption | (simp_all; done)
        have hk0 : (cpt (l.take (k + 1))).length = k := by rw [← (cst_n hk1 (by omega) hlk0).2, hck, List.length_take]; omega
        have hks : cst l (k + 1) = l := by rw [← (cst_n hk1 (by omega) hlk0).1, cst_same hck (by omega)]
        refine Ex.loopK (X := Nat) (fun e => [(3, .int .i64 (cpt (l.take (k + e))).length), (5, .int .i64 e)]) (fun e => [.row (.slice A n c) 39 2 n ((cst l (k + e)).flatMap encP)]) (fun e => 1 ≤ e ∧ k + e ≤ n ∧ (cpt (l.take (k + e))).length < k + e) (fun e => n - (k + e)) 1 [(0, _), (4, _)] (F) 1 [0] ⟨agI (by rw [hk0]), rfl, trivial⟩ ⟨rfl, rfl, trivial⟩ (pkR (by rw [hks])) rfl ⟨Nat.le_refl _, by omega, by rw [hk0]; omega⟩ (fun e hI => ?_)
        have hI : 1 ≤ e ∧ k + e ≤ n ∧ (cpt (l.take (k + e))).length < k + e := hI
        obtain ⟨he1, hke, hcl⟩ := hI
        refine Ex.seq ?_
        refine Ex.regSeq (ExL.pures 3 rfl ?_)
        refine ExL.lss rfl rfl rfl rfl rfl rfl (fun h4 => ?_) (fun h4 => ?_)
        · refine ExL.nil ?_
          refine Ex.cond_t rfl ?_
          refine Ex.skip ?_
          refine Ex.seq ?_
          refine Ex.block ?_
          refine Ex.drawSeqM rfl ?_
          refine ExD.take (i := 0) rfl (by kernel_rfl) (pureVal_ok rfl) ((List.Sublist.refl _)) rfl rfl rfl ?_
          refine ExD.take (i := 1) rfl (by kernel_rfl) (pureVal_ok rfl) ((List.Sublist.refl _)) rfl rfl rfl ?_
          refine ExD.take (i := 2) rfl (by kernel_rfl) (fr_indexAddrX (Reads.dropL (Reads.row (i := 0) rfl) encP_len (by rw [cst_len (by omega)]; omega) k) encP_len (by rw [List.length_drop, cst_len (by omega)]; omega) rfl rfl rfl rfl rfl rfl (by omega)) ((List.Sublist.refl _)) rfl rfl rfl ?_
          refine ExD.take (i := 3) rfl (by kernel_rfl) (fr_loadN rfl rfl rfl rfl rfl (segD (i := ↑(e)) (e) (Reads.dropL (Reads.row (i := 0) rfl) encP_len (by rw [cst_len (by omega)]; omega) k) encP_len rfl zP rfl (by rw [List.length_drop, cst_len (by omega)]; omega) (ccdrop (q := k + e) (by omega)))) ((List.Sublist.refl _)) rfl rfl rfl ?_
          refine ExD.take (i := 4) rfl (by kernel_rfl) (pureVal_ok rfl) ((List.Sublist.refl _)) rfl rfl rfl ?_
          refine ExD.take (i := 5) rfl (by kernel_rfl) (pureVal_ok rfl) ((List.Sublist.refl _)) rfl rfl rfl ?_
          refine ExD.take (i := 6) rfl (by kernel_rfl) (Free.val (((e - 1 : Nat) : Int)) (fr_sub64 rfl rfl rfl (by omega)) (by omega)) ((List.Sublist.refl _)) rfl rfl rfl ?_
          refine ExD.take (i := 7) rfl (by kernel_rfl) (fr_indexAddrX (Reads.dropL (Reads.row (i := 0) rfl) encP_len (by rw [cst_len (by omega)]; omega) k) encP_len (by rw [List.length_drop, cst_len (by omega)]; omega) rfl rfl rfl rfl rfl rfl (by omega)) ((List.Sublist.refl _)) rfl rfl rfl ?_
          refine ExD.take (i := 8) rfl (by kernel_rfl) (fr_loadN rfl rfl rfl rfl rfl (segD (i := ↑((e - 1))) ((e - 1)) (Reads.dropL (Reads.row (i := 0) rfl) encP_len (by rw [cst_len (by omega)]; omega) k) encP_len rfl zP rfl (by rw [List.length_drop, cst_len (by omega)]; omega) (ccdrop (q := k + e - 1) (by omega)))) ((List.Sublist.refl _)) rfl rfl rfl ?_
          refine ExD.take (i := 9) rfl (by kernel_rfl) (fr_neq_rec (eq_TotP (l.getD (k + e) zP) (l.getD (k + e - 1) zP)) rfl rfl rfl (by kernel_rfl)) ((List.Sublist.refl _)) rfl rfl rfl ?_
          refine ExD.done (by kernel_rfl) ?_
          refine Ex.cond rfl (fun hb5 => ?_) (fun hb5 => ?_)
          · have hlk : likeP (l.getD (k + e - 1) zP) (l.getD (k + e) zP) = false := by rw [like_sym]; first | assumption | (simp_all; done)
            refine Ex.regSeq (ExL.pures 4 rfl ?_)
            refine ExL.free (fr_indexAddrX (Reads.dropL (Reads.row (i := 0) rfl) encP_len (by rw [cst_len (by omega)]; omega) k) encP_len (by rw [List.length_drop, cst_len (by omega)]; omega) rfl rfl rfl rfl rfl rfl (by omega)) rfl rfl rfl ?_
            refine ExL.free (fr_loadN rfl rfl rfl rfl rfl (segD (i := ↑(e)) (e) (Reads.dropL (Reads.row (i := 0) rfl) encP_len (by rw [cst_len (by omega)]; omega) k) encP_len rfl zP rfl (by rw [List.length_drop, cst_len (by omega)]; omega) (ccdrop (q := k + e) (by omega)))) rfl rfl rfl ?_
            refine ExL.free (fr_indexAddrR (sz := 2) 0 rfl rfl rfl rfl rfl rfl (by omega)) rfl rfl rfl ?_
            refine ExL.op rfl (op_storeRowF (i := 0) rfl rfl rfl rfl rfl rfl rfl rfl (room encP_len (k := (cpt (l.take (k + e))).length) (by rw [cst_len (by omega)]; omega) (by simp) rfl) (List.cons_ne_nil _ _) rfl (cst_put (m := k + e) (by omega) (by omega) hlk rfl (by simp) rfl) ?_)
            refine ExL.nil ?_
            refine Ex.region (ExL.pures 1 rfl ?_)
            refine ExL.free (by first | exact fr_add64 rfl rfl rfl (by omega) | exact fr_add rfl rfl rfl) rfl rfl rfl ?_
            refine ExL.pures 1 rfl ?_
            refine ExL.nil ?_
            refine Ex.region (ExL.pures 1 rfl ?_)
            refine ExL.free (by first | exact fr_add64 rfl rfl rfl (by omega) | exact fr_add rfl rfl rfl) rfl rfl rfl ?_
            refine ExL.pures 1 rfl ?_
            refine ExL.nil ?_
            refine Hand.mk (e + 1) 1 [0] ⟨agI (by first | (rw [show k + (e + 1) = k + e + 1 by omega, (cst_y (by omega) (by omega) hlk).2]; omega) | (rw [show k + (e + 1) = k + e + 1 by omega, ← (cst_n (by omega) (by omega) hln).2])), rfl, trivial⟩ ⟨rfl, rfl, trivial⟩ (by first | rfl | exact pkR (congrArg (fun z => List.flatMap encP z) (cst_n (by omega) (by omega) hln).1)) rfl (⟨by omega, by omega, by first | (rw [show k + (e + 1) = k + e + 1 by omega, (cst_y (by omega) (by omega) hlk).2]; omega) | (rw [show k + (e + 1) = k + e + 1 by omega, ← (cst_n (by omega) (by omega) hln).2]; omega)⟩) (by omega)
          · refine Ex.skip ?_
            refine Ex.region (ExL.pures 1 rfl ?_)
            refine ExL.free (by first | exact fr_add64 rfl rfl rfl (by omega) | exact fr_add rfl rfl rfl) rfl rfl rfl ?_
            refine ExL.pures 1 rfl ?_
            refine ExL.nil ?_
            have hln : likeP (l.getD (k + e - 1) zP) (l.getD (k + e) zP) = true := by rw [like_sym]; first | assumption | (simp_all; done)
            refine Hand.mk (e + 1) 1 [0] ⟨agI (by first | (rw [show k + (e + 1) = k + e + 1 by omega, (cst_y (by omega) (by omega) hlk).2]; omega) | (rw [show k + (e + 1) = k + e + 1 by omega, ← (cst_n (by omega) (by omega) hln).2])), rfl, trivial⟩ ⟨rfl, rfl, trivial⟩ (by first | rfl | exact pkR (congrArg (fun z => List.flatMap encP z) (cst_n (by omega) (by omega) hln).1)) rfl (⟨by omega, by omega, by first | (rw [show k + (e + 1) = k + e + 1 by omega, (cst_y (by omega) (by omega) hlk).2]; omega) | (rw [show k + (e + 1) = k + e + 1 by omega, ← (cst_n (by omega) (by omega) hln).2]; omega)⟩) (by omega)
        · refine ExL.nil ?_
          refine Ex.cond_f rfl ?_
          refine Ex.exit ?_
          have hme : l.take (k + e) = l := List.take_of_length_le (by omega)
          rw [hme] at hcl ⊢
          have hcp := cpt_pos (l := l) (by omega)
          refine Ex.regSeq (ExL.pures 2 rfl ?_)
          refine ExL.free (fr_slice_l (sz := 2) (cpt l).length rfl rfl rfl rfl rfl rfl (by omega)) rfl rfl rfl ?_
          refine ExL.op rfl (op_clearRow (i := 0) (k := (cpt l).length) (sz := 2) rfl rfl rfl rfl rfl rfl rfl rfl (by omega) (by omega) (by omega) rfl (fun new => ?_))
          refine ExL.nil ?_
          refine Ex.conv (cutRowH (k := (cpt l).length) (by omega) (by omega) (cst_cut (m := k + e) (by omega) rfl rfl) (perm_at (i := 0) rfl)) ?_
          refine Ex.regSeq (ExL.pures 2 rfl ?_)
          refine ExL.free (fr_slice_h (sz := 2) (cpt l).length rfl rfl rfl rfl rfl rfl (by omega)) rfl rfl rfl ?_
          refine ExL.pures 1 rfl ?_
          refine ExL.nil ?_
          refine Ex.ret ?_
          refine MutQ.mk () rfl (.tmp rfl .nil) (by first | rfl | (rw [hcs, hn]; rfl)) 1 [0] (by first | rfl | (rw [hcs, hn]; rfl)) rfl (trivial)
      · refine Ex.skip ?_
        refine Ex.region (ExL.pures 1 rfl ?_)
        refine ExL.free (by first | exact fr_add64 rfl rfl rfl (by omega) | exact fr_add rfl rfl rfl) rfl rfl rfl ?_
        refine ExL.pures 1 rfl ?_
        refine ExL.nil ?_
        refine Hand.mk (k + 1) 1 [0] ⟨rfl, trivial⟩ ⟨rfl, trivial⟩ (rfl) rfl (⟨by omega, by omega, cpt_step hk1 (by omega) hck (by rw [like_sym]; first | assumption | (simp_all; done))⟩) (by omega)
    · refine ExL.nil ?_
      refine Ex.cond_f rfl ?_
      refine Ex.exit ?_
      have hcs : cpt l = l := by rw [List.take_of_length_le (by omega)] at hck; exact hck
      refine Ex.regSeq (ExL.pures 2 rfl ?_)
      refine ExL.nil ?_
      refine Ex.ret ?_
      refine MutQ.mk () rfl (.tmp rfl .nil) (by first | rfl | (rw [hcs, hn]; rfl)) 1 [0] (by first | rfl | (rw [hcs, hn]; rfl)) rfl (trivial)
end Go.Proofs.YtniimollalcjnaaGreatDoor

/- What these functions of the program hand back, each proved by walking its operations. -/
set_option linter.unusedVariables false
set_option linter.unusedSimpArgs false
set_option maxRecDepth 4000
namespace Go.Proofs.YtniimollalcjnaaGreatDoor
open Go Go.Sx Go.RowKit Go.W Go.Proofs
attribute [local irreducible] Ex ExL ExD Op1 Free RetQ MutQ Reads CellO SegO LoadsAs
theorem e_61 : Enters Tryz.prog 61 := Enters.of Tryz.func61 rfl
theorem c_GrowT (n : Nat) (hn : n ≤ 1000000) : Ret Tryz.prog 61 [.slice none 0 0, .int .i64 n] (fun w => True) (fun x : Option Addr × Nat => .slice x.1 0 x.2) (fun x => [.row (.slice x.1 0 x.2) 39 2 0 []]) (fun x => True) := by
  refine Ret.of e_61 Tryz.func61 rfl Tryz.ntmps61 rfl rfl (fun w hpre => ?_)
  have hm0 : maxLen = 9223372036854775807 := rfl
  refine Ex.regSeq (ExL.pures 1 rfl ?_)
  refine ExL.nil ?_
  refine Ex.seq ?_
  refine Ex.regSeq (ExL.pures 1 rfl ?_)
  refine ExL.free (fr_lss_f rfl rfl rfl (by omega)) rfl rfl rfl ?_
  refine ExL.nil ?_
  refine Ex.cond_f rfl ?_
  refine Ex.skip ?_
  refine Ex.seq ?_
  refine Ex.regSeq (ExL.pures 2 rfl ?_)
  refine ExL.free (fr_cap rfl rfl rfl) rfl rfl rfl ?_
  refine ExL.pures 2 rfl ?_
  refine ExL.free (by first | exact fr_sub64 rfl rfl rfl (by omega) | exact fr_sub rfl rfl rfl) rfl rfl rfl ?_
  refine ExL.free (Free.val (n : Int) (fr_sub64 rfl rfl rfl (by omega)) (by omega)) rfl rfl rfl ?_
  refine ExL.pures 1 rfl ?_
  refine ExL.nil ?_
  refine Ex.regSeq (ExL.pures 1 rfl ?_)
  refine ExL.gtr rfl rfl rfl rfl rfl rfl (fun h1 => ?_) (fun h1 => ?_)
  · refine ExL.nil ?_
    refine Ex.cond_t rfl ?_
    refine Ex.region (ExL.pures 2 rfl ?_)
    refine ExL.free (fr_cap rfl rfl rfl) rfl rfl rfl ?_
    refine ExL.free (fr_slice_h (sz := 2) 0 rfl rfl rfl rfl rfl rfl (by omega)) rfl rfl rfl ?_
    refine ExL.pures 1 rfl ?_
    refine ExL.op rfl (op_appendZ (sz := 2) (bytes := 16) rfl rfl rfl rfl rfl rfl rfl (by omega) (by constructor <;> first | omega | (unfold maxLen; omega)) rfl rfl (fun r2 cr2 => ?_))
    refine ExL.pures 2 rfl ?_
    refine ExL.free (fr_slice_h (sz := 2) 0 rfl rfl rfl rfl rfl rfl (by omega)) rfl rfl rfl ?_
    refine ExL.pures 1 rfl ?_
    refine ExL.nil ?_
    refine Ex.regSeq (ExL.pures 2 rfl ?_)
    refine ExL.nil ?_
    refine Ex.ret ?_
    refine RetQ.mk ((some ⟨r2, 0, none⟩), cr2) rfl (.tmp rfl .nil) (rfl) [0] (rfl) rfl (trivial)
  · refine ExL.nil ?_
    refine Ex.cond_f rfl ?_
    refine Ex.skip ?_
    refine Ex.regSeq (ExL.pures 2 rfl ?_)
    refine ExL.nil ?_
    refine Ex.nilRow 39 2 ?_
    refine Ex.ret ?_
    refine RetQ.mk (none, 0) rfl (.tmp rfl .nil) (rfl) [0] (rfl) rfl (trivial)
theorem e_42 : Enters Tryz.prog 42 := Enters.of Tryz.func42 rfl
theorem c_ConcatT (K : List (VX VP)) (AK : Option Addr) (cK : Nat) (hT : (catX K K.length).length ≤ 1000000) (hL : K.length ≤ 1000000) (hN : ∀ k, k < K.length → (K.getD k zX).A = none → (K.getD k zX).xs.length = 0 ∧ (K.getD k zX).c = 0) : Ret Tryz.prog 42 [.slice AK K.length cK] (fun w => Rd w AK (K.flatMap encX) ∧ ∀ k, k < K.length → Rd w (K.getD k zX).A ((K.getD k zX).xs.flatMap encP)) (fun x : Option Addr × Nat => .slice x.1 (catX K K.length).length x.2) (fun x => [.row (.slice x.1 (catX K K.length).length x.2) 39 2 (catX K K.length).length ((catX K K.length).flatMap encP)]) (fun x => True) := by
  refine Ret.of e_42 Tryz.func42 rfl Tryz.ntmps42 rfl rfl (fun w hpre => ?_)
  have hKr := hpre.1.base
  have hKi := fun k hk => (hpre.2 k hk).base
  have hm0 : maxLen = 9223372036854775807 := rfl
  refine Ex.regSeq (ExL.pures 1 rfl ?_)
  refine ExL.nil ?_
  refine Ex.regSeq (ExL.pures 1 rfl ?_)
  refine ExL.nil ?_
  refine Ex.seq ?_
  refine Ex.regSeq (ExL.pures 3 rfl ?_)
  refine ExL.nil ?_
  refine Ex.block ?_
  refine Ex.loopK (X := Nat) (fun k => [(3, .int .i64 (catX K k).length), (11, .int .i64 k)]) (fun k => []) (fun k => k ≤ K.length) (fun k => K.length - k) 0 [(0, _), (2, _), (9, _), (10, _)] [] 0 [] ⟨rfl, rfl, trivial⟩ ⟨rfl, rfl, rfl, rfl, trivial⟩ (rfl) rfl (Nat.zero_le _) (fun k hI => ?_)
  have hI : k ≤ K.length := hI
  have hcm := catX_mono hI
  refine Ex.regSeq (ExL.pures 0 rfl ?_)
  refine ExL.lss rfl rfl rfl rfl rfl rfl (fun h1 => ?_) (fun h1 => ?_)
  · refine ExL.nil ?_
    refine Ex.seq ?_
    refine Ex.cond_t rfl ?_
    refine Ex.skip ?_
    refine Ex.seq ?_
    refine Ex.block ?_
    have hkk : k < K.length := by omega
    have hcs := catX_sl hkk
    have hcm1 := catX_mono (K := K) (k := k + 1) (by omega)
    refine Ex.regSeq (ExL.pures 0 rfl ?_)
    refine ExL.free (fr_indexAddrF (Reads.old hKr) encX_len rfl rfl rfl rfl rfl rfl (by omega)) rfl rfl rfl ?_
    refine ExL.free (fr_load rfl rfl rfl rfl (by first | exact cellN (Reads.old hKr) encX_len zX 0 rfl (by omega) rfl | exact cellF (Reads.old hKr) encX_len zX 0 rfl (by omega) rfl)) rfl rfl rfl ?_
    refine ExL.pures 1 rfl ?_
    refine ExL.nil ?_
    refine Ex.regSeq (ExL.pures 3 rfl ?_)
    refine ExL.free (by first | exact fr_add64 rfl rfl rfl (by omega) | exact fr_add rfl rfl rfl) rfl rfl rfl ?_
    refine ExL.pures 1 rfl ?_
    refine ExL.nil ?_
    refine Ex.regSeq (ExL.pures 1 rfl ?_)
    refine ExL.free (fr_lss_f rfl rfl rfl (by omega)) rfl rfl rfl ?_
    refine ExL.nil ?_
    refine Ex.cond_f rfl ?_
    refine Ex.skip ?_
    refine Ex.region (ExL.pures 0 rfl ?_)
    refine ExL.free (by first | exact fr_add64 rfl rfl rfl (by omega) | exact fr_add rfl rfl rfl) rfl rfl rfl ?_
    refine ExL.pures 1 rfl ?_
    refine ExL.nil ?_
    refine Hand.mk (k + 1) 0 [] ⟨agI (by rw [hcs]; omega), rfl, trivial⟩ ⟨rfl, rfl, rfl, rfl, trivial⟩ (rfl) rfl (by omega) (by omega)
  · refine ExL.nil ?_
    refine Ex.seq ?_
    refine Ex.cond_f rfl ?_
    refine Ex.exit ?_
    obtain rfl : k = K.length := (by omega)
    refine Ex.regSeq (ExL.pures 1 rfl ?_)
    refine ExL.op rfl (op_ret rfl rfl rfl (c_GrowT (catX K K.length).length (by omega)) (fun _ _ => trivial) rfl rfl (fun x2 hx2 => ?_))
    refine ExL.pures 1 rfl ?_
    refine ExL.nil ?_
    refine Ex.seq ?_
    refine Ex.regSeq (ExL.pures 3 rfl ?_)
    refine ExL.nil ?_
    refine Ex.block ?_
    refine Ex.loopA (fun k A c => [(6, .slice A (catX K k).length c), (27, .int .i64 k)]) (fun k A c => [.row (.slice A (catX K k).length c) 39 2 (catX K k).length ((catX K k).flatMap encP)]) (fun k => k ≤ K.length) (fun k => K.length - k) 0 (x2.1) (x2.2) [(2, _), (25, _), (26, _)] [] 1 [0] ⟨rfl, rfl, trivial⟩ ⟨rfl, rfl, rfl, trivial⟩ (by first | rfl | (rw [catX_0]; rfl)) rfl (Nat.zero_le _) (fun k A c hI => ?_)
    have hI : k ≤ K.length := hI
    have hcm := catX_mono hI
    refine Ex.regSeq (ExL.pures 0 rfl ?_)
    refine ExL.lss rfl rfl rfl rfl rfl rfl (fun h3 => ?_) (fun h3 => ?_)
    · refine ExL.nil ?_
      refine Ex.seq ?_
      refine Ex.cond_t rfl ?_
      refine Ex.skip ?_
      refine Ex.seq ?_
      refine Ex.block ?_
      have hkk : k < K.length := by omega
      have hcs := catX_sl hkk
      have hcm1 := catX_mono (K := K) (k := k + 1) (by omega)
      refine Ex.regSeq (ExL.pures 0 rfl ?_)
      refine ExL.free (fr_indexAddrF (Reads.old hKr) encX_len rfl rfl rfl rfl rfl rfl (by omega)) rfl rfl rfl ?_
      refine ExL.free (fr_load rfl rfl rfl rfl (by first | exact cellN (Reads.old hKr) encX_len zX 0 rfl (by omega) rfl | exact cellF (Reads.old hKr) encX_len zX 0 rfl (by omega) rfl)) rfl rfl rfl ?_
      refine ExL.pures 1 rfl ?_
      refine ExL.nil ?_
      refine Ex.region (ExL.pures 2 rfl ?_)
      refine ExL.op rfl (op_append (sz := 2) (bytes := 16) (i := 0) rfl rfl rfl rfl (Reads.old (hKi k (by omega))) (flat_len encP_len _) (fun e => hN k (by omega) e) (all_flat (fun _ => rfl) _) rfl rfl rfl (by constructor <;> first | omega | (unfold maxLen; omega)) rfl rfl (fun A4 cA4 => ?_))
      refine ExL.pures 1 rfl ?_
      refine ExL.nil ?_
      refine Ex.region (ExL.pures 0 rfl ?_)
      refine ExL.free (by first | exact fr_add64 rfl rfl rfl (by omega) | exact fr_add rfl rfl rfl) rfl rfl rfl ?_
      refine ExL.pures 1 rfl ?_
      refine ExL.nil ?_
      refine HandA.of (k + 1) (A4) (cA4) 1 [0] ⟨(by rw [hcs]; rfl), rfl, trivial⟩ ⟨rfl, rfl, rfl, trivial⟩ (by rw [hcs, catX_s hkk, List.flatMap_append]; rfl) rfl (by omega) (by omega)
    · refine ExL.nil ?_
      refine Ex.seq ?_
      refine Ex.cond_f rfl ?_
      refine Ex.exit ?_
      obtain rfl : k = K.length := (by omega)
      refine Ex.regSeq (ExL.pures 2 rfl ?_)
      refine ExL.nil ?_
      refine Ex.ret ?_
      refine RetQ.mk (A, c) rfl (.tmp rfl .nil) (rfl) [0] (rfl) rfl (trivial)
theorem c_insertion0 (A : Option Addr) (c : Nat) : Mut Tryz.prog 77 [.slice A 0 c, .int .i64 0, .int .i64 0, .func (.func 44) #[] #[]] [.row (.slice A 0 c) 39 2 0 []] (fun base w0 F => True) (fun x : Unit => .tuple #[]) (fun x => [.row (.slice A 0 c) 39 2 0 []]) (fun x => True) := by
  refine Mut.of e_77 Tryz.func77 rfl Tryz.ntmps77 rfl rfl (fun base w0 F hfr => ?_)
  refine Ex.regSeq (ExL.pures 1 rfl ?_)
  refine ExL.free (by first | exact fr_add64 rfl rfl rfl (by omega) | exact fr_add rfl rfl rfl) rfl rfl rfl ?_
  refine ExL.pures 1 rfl ?_
  refine ExL.nil ?_
  refine Ex.block ?_
  refine Ex.loopK (X := Nat) (fun k => [(8, .int .i64 1)]) (fun k => [.row (.slice A 0 c) 39 2 0 []]) (fun k => True) (fun k => 0) 0 [(0, _), (1, _), (2, _), (3, _)] (F) 1 [0] ⟨agI (by omega), trivial⟩ ⟨rfl, rfl, rfl, rfl, trivial⟩ (rfl) rfl trivial (fun k hI => ?_)
  have hI : True := hI
  refine Ex.seq ?_
  refine Ex.regSeq (ExL.pures 2 rfl ?_)
  refine ExL.free (fr_lss_f rfl rfl rfl (by omega)) rfl rfl rfl ?_
  refine ExL.nil ?_
  refine Ex.cond_f rfl ?_
  refine Ex.exit ?_
  refine MutQ.mk () rfl .nil (rfl) 1 [0] (rfl) rfl (trivial)
theorem c_stable0 (A : Option Addr) (c : Nat) : Mut Tryz.prog 62 [.slice A 0 c, .int .i64 0, .func (.func 44) #[] #[]] [.row (.slice A 0 c) 39 2 0 []] (fun base w0 F => True) (fun x : Unit => .tuple #[]) (fun x => [.row (.slice A 0 c) 39 2 0 []]) (fun x => True) := by
  refine Mut.of e_62 Tryz.func62 rfl Tryz.ntmps62 rfl rfl (fun base w0 F hfr => ?_)
  refine Ex.regSeq (ExL.pures 1 rfl ?_)
  refine ExL.nil ?_
  refine Ex.regSeq (ExL.pures 3 rfl ?_)
  refine ExL.nil ?_
  refine Ex.seq ?_
  refine Ex.block ?_
  refine Ex.loopK (X := Nat) (fun k => [(7, .int .i64 0), (8, .int .i64 20)]) (fun k => [.row (.slice A 0 c) 39 2 0 []]) (fun k => True) (fun k => 0) 0 [(0, _), (1, _), (2, _), (6, _)] (F) 1 [0] ⟨rfl, rfl, trivial⟩ ⟨rfl, rfl, rfl, rfl, trivial⟩ (rfl) rfl trivial (fun k hI => ?_)
  have hI : True := hI
  refine Ex.seq ?_
  refine Ex.regSeq (ExL.pures 2 rfl ?_)
  refine ExL.free (fr_leq_f rfl rfl rfl (by omega)) rfl rfl rfl ?_
  refine ExL.nil ?_
  refine Ex.cond_f rfl ?_
  refine Ex.exit ?_
  refine Ex.regSeq (ExL.pures 4 rfl ?_)
  refine ExL.op rfl (op_mut rfl rfl rfl (c_insertion0 A c) (perm_at (i := 0) rfl) (trivial) rfl rfl (fun x1 hx1 => ?_))
  refine ExL.nil ?_
  refine Ex.block ?_
  refine Ex.loopK (X := Nat) (fun k => [(6, .int .i64 20)]) (fun k => [.row (.slice A 0 c) 39 2 0 []]) (fun k => True) (fun k => 0) 0 [(0, _), (1, _), (2, _)] (F) 1 [0] ⟨rfl, trivial⟩ ⟨rfl, rfl, rfl, trivial⟩ (rfl) rfl trivial (fun k hI => ?_)
  have hI : True := hI
  refine Ex.seq ?_
  refine Ex.regSeq (ExL.pures 2 rfl ?_)
  refine ExL.free (fr_lss_f rfl rfl rfl (by omega)) rfl rfl rfl ?_
  refine ExL.nil ?_
  refine Ex.cond_f rfl ?_
  refine Ex.exit ?_
  refine MutQ.mk () rfl .nil (rfl) 1 [0] (rfl) rfl (trivial)
theorem e_43 : Enters Tryz.prog 43 := Enters.of Tryz.func43 rfl
theorem c_SortStable0 (A : Option Addr) (c : Nat) : Mut Tryz.prog 43 [.slice A 0 c, .func (.func 44) #[] #[]] [.row (.slice A 0 c) 39 2 0 []] (fun base w0 F => True) (fun x : Unit => .tuple #[]) (fun x => [.row (.slice A 0 c) 39 2 0 []]) (fun x => True) := by
  refine Mut.of e_43 Tryz.func43 rfl Tryz.ntmps43 rfl rfl (fun base w0 F hfr => ?_)
  refine Ex.region (ExL.pures 4 rfl ?_)
  refine ExL.op rfl (op_mut rfl rfl rfl (c_stable0 A c) (perm_at (i := 0) rfl) (trivial) rfl rfl (fun x1 hx1 => ?_))
  refine ExL.nil ?_
  refine MutQ.mk () rfl .nil (rfl) 1 [0] (rfl) rfl (trivial)
theorem c_SortStable1 (l : List VP) (A : Addr) (n c : Nat) (hn : l.length = n ∧ n ≤ 1000) (hn3 : n ≤ 120) : Mut Tryz.prog 43 [.slice (some A) n c, .func (.func 44) #[] #[]] [.row (.slice (some A) n c) 39 2 n (l.flatMap encP)] (fun base w0 F => True) (fun x : List VP => .tuple #[]) (fun x => [.row (.slice (some A) n c) 39 2 n (x.flatMap encP)]) (fun x => Same l x ∧ Up x 0 n) := by
  refine Mut.of e_43 Tryz.func43 rfl Tryz.ntmps43 rfl rfl (fun base w0 F hfr => ?_)
  obtain ⟨hn1, hn2⟩ := hn
  have hm0 : maxLen = 9223372036854775807 := rfl
  refine Ex.region (ExL.pures 4 rfl ?_)
  refine ExL.op rfl (op_mut rfl rfl rfl (c_stable l A n c (by constructor <;> omega) (by omega)) (perm_at (i := 0) rfl) (trivial) rfl rfl (fun x1 hx1 => ?_))
  refine ExL.nil ?_
  refine MutQ.mk x1 rfl .nil (rfl) 1 [0] (rfl) rfl (hx1)
end Go.Proofs.YtniimollalcjnaaGreatDoor

/- What these functions of the program hand back, each proved by walking its operations. -/
set_option linter.unusedVariables false
set_option linter.unusedSimpArgs false
set_option maxRecDepth 4000
namespace Go.Proofs.YtniimollalcjnaaGreatDoor
open Go Go.Sx Go.RowKit Go.W Go.Proofs
attribute [local irreducible] Ex ExL ExD Op1 Free RetQ MutQ Reads CellO SegO LoadsAs
theorem e_19 : Enters Tryz.prog 19 := Enters.of Tryz.func19 rfl
set_option maxHeartbeats 800000 in
theorem c_iMerge_n (s : List VP) (As : Option Addr) (cs : Nat) (hls : s.length ≤ maxLen) (t : List VP) (At : Option Addr) (ct : Nat) (hlt : t.length ≤ maxLen) (hAs : As = none → cs = 0) (hAt : At = none → ct = 0) (hne : 1 ≤ s.length + t.length) : Ret Tryz.prog 19 [.slice As s.length cs, .slice At t.length ct] (fun w => Rd w As (s.flatMap encP) ∧ Rd w At (t.flatMap encP)) (fun x : Option Addr × Nat => .tuple #[.slice x.1 (merV s t).1.length x.2, .int .i64 (merV s t).2]) (fun x => [.row (.slice x.1 ((merV s t).1).length x.2) 39 2 ((merV s t).1).length (((merV s t).1).flatMap encP)]) (fun x => True) := by
  refine Ret.of e_19 Tryz.func19 rfl Tryz.ntmps19 rfl rfl (fun w hpre => ?_)
  have hs := hpre.1.base
  have ht := hpre.2.base
  have hm0 : maxLen = 9223372036854775807 := rfl
  refine Ex.regSeq (ExL.pures 2 rfl ?_)
  refine ExL.nil ?_
  refine Ex.seq ?_
  refine Ex.regSeq (ExL.pures 1 rfl ?_)
  refine ExL.op rfl (op_ret rfl rfl rfl (c_ValidTotals s _ _ (by omega)) (Reads.get (Reads.old hs)) rfl rfl (fun x1 hx1 => ?_))
  refine ExL.pures 2 rfl ?_
  refine ExL.bool (d := 14) rfl (fun hb2 => ?_) (fun hb2 => ?_)
  · replace hb2 := nb_t hb2
    refine ExL.pures 4 rfl ?_
    refine ExL.nil ?_
    refine Ex.cond_t rfl ?_
    have hmv := mer_1 (s := s) (t := t) (by simp_all)
    refine Ex.regSeq (ExL.pures 2 rfl ?_)
    refine ExL.nil ?_
    refine Ex.nilRow 39 2 ?_
    refine Ex.ret ?_
    refine RetQ.mk (none, 0) rfl (.tmp rfl (.tmp rfl .nil)) (t2 (by rw [hmv]; first | done | rfl) (vI (by rw [hmv]; first | done | rfl))) [0] (by rw [hmv]; first | done | rfl) rfl (trivial)
  · replace hb2 := nb_f hb2
    refine ExL.pures 1 rfl ?_
    refine ExL.op rfl (op_ret rfl rfl rfl (c_ValidTotals t _ _ (by omega)) (Reads.get (Reads.old ht)) rfl rfl (fun x3 hx3 => ?_))
    refine ExL.pures 2 rfl ?_
    refine ExL.nil ?_
    refine Ex.cond rfl (fun hb4 => ?_) (fun hb4 => ?_)
    · replace hb4 := nb_t hb4
      have hmv := mer_1 (s := s) (t := t) (by simp_all)
      refine Ex.regSeq (ExL.pures 2 rfl ?_)
      refine ExL.nil ?_
      refine Ex.nilRow 39 2 ?_
      refine Ex.ret ?_
      refine RetQ.mk (none, 0) rfl (.tmp rfl (.tmp rfl .nil)) (t2 (by rw [hmv]; first | done | rfl) (vI (by rw [hmv]; first | done | rfl))) [0] (by rw [hmv]; first | done | rfl) rfl (trivial)
    · replace hb4 := nb_f hb4
      refine Ex.skip ?_
      have hTs := tot (by simp_all : validTot s = true)
      have hTt := tot (by simp_all : validTot t = true)
      have hvv : (validTot s && validTot t) = true := by simp_all
      have hsl := hTs.len
      have htl := hTt.len
      refine Ex.regSeq (ExL.pures 2 rfl ?_)
      refine ExL.op rfl (op_buildSlice (sz := 1) rfl rfl rfl rfl rfl rfl rfl rfl (by decide) rfl rfl rfl (fun r5 => ?_))
      refine ExL.op rfl (op_ret rfl rfl rfl (c_ConcatT ([⟨As, cs, s⟩, ⟨At, ct, t⟩] : List (VX VP)) _ _ (by rw [catX_2]; show (s ++ t).length ≤ 1000000; rw [List.length_append]; omega) (by show 2 ≤ 1000000; omega) (nil2 (fun e => ⟨none_len hs e, hAs e⟩) (fun e => ⟨none_len ht e, hAt e⟩))) (fun w hw => ⟨Reads.get (Reads.row (i := 0) rfl) w hw, reads2 (Reads.get (Reads.old hs) w hw) (Reads.get (Reads.old ht) w hw)⟩) rfl rfl (fun x6 hx6 => ?_))
      have hul : (catX ([⟨As, cs, s⟩, ⟨At, ct, t⟩] : List (VX VP)) ([⟨As, cs, s⟩, ⟨At, ct, t⟩] : List (VX VP)).length).length = s.length + t.length := by rw [catX_2]; exact List.length_append
      refine ExL.pures 1 rfl ?_
      refine ExL.nil ?_
      refine Ex.know (p := ∃ a, x6.1 = some a) (row_addr (i := 0) rfl (by omega)) (fun hA => ?_)
      obtain ⟨a0, ha0⟩ := hA
      rw [ha0]
      refine Ex.regSeq (ExL.pures 1 rfl ?_)
      refine ExL.op rfl (op_mut rfl rfl rfl (c_SortStable1 (catX ([⟨As, cs, s⟩, ⟨At, ct, t⟩] : List (VX VP)) ([⟨As, cs, s⟩, ⟨At, ct, t⟩] : List (VX VP)).length) a0 _ _ (by constructor <;> omega) (by omega)) (perm_at (i := 0) rfl) (trivial) rfl rfl (fun x7 hx7 => ?_))
      obtain ⟨hsm, hup⟩ := hx7
      rw [catX_2] at hsm
      have hxm := sorted_mrg hTs hTt hul hsm hup
      subst hxm
      refine ExL.nil ?_
      have hml := mrg_len _ s t (Nat.le_refl _)
      refine Ex.regSeq (ExL.pures 1 rfl ?_)
      refine ExL.op rfl (op_mut rfl rfl rfl (c_Compact (mrg s t) (some a0) _ _ (by omega) (by omega)) (perm_at (i := 0) rfl) (trivial) rfl rfl (fun x8 hx8 => ?_))
      refine ExL.pures 1 rfl ?_
      refine ExL.nil ?_
      have hcl := cpt_le (mrg s t)
      have hcp := cpt_pos (l := mrg s t) (by omega)
      refine Ex.regSeq (ExL.pures 1 rfl ?_)
      refine ExL.nil ?_
      refine Ex.seq ?_
      refine Ex.regSeq (ExL.pures 1 rfl ?_)
      refine ExL.nil ?_
      refine Ex.block ?_
      refine Ex.loopK (X := Nat) (fun k => [(7, .int .i64 (codeK (cpt (mrg s t)) k)), (8, .int .i64 k)]) (fun k => []) (fun k => 1 ≤ k ∧ k ≤ (cpt (mrg s t)).length ∧ ∀ i, i + 1 < k → ((cpt (mrg s t)).getD i zP).a ≠ ((cpt (mrg s t)).getD (i + 1) zP).a) (fun k => (cpt (mrg s t)).length - k) 1 [(6, _)] [_] 2 [0] ⟨rfl, rfl, trivial⟩ ⟨rfl, trivial⟩ (rfl) rfl ⟨Nat.le_refl _, by omega, fun i hi => by omega⟩ (fun k hI => ?_)
      have hI : 1 ≤ k ∧ k ≤ (cpt (mrg s t)).length ∧ ∀ i, i + 1 < k → ((cpt (mrg s t)).getD i zP).a ≠ ((cpt (mrg s t)).getD (i + 1) zP).a := hI
      obtain ⟨hk1, hk, hall⟩ := hI
      refine Ex.seq ?_
      refine Ex.regSeq (ExL.pures 3 rfl ?_)
      refine ExL.lss rfl rfl rfl rfl rfl rfl (fun h9 => ?_) (fun h9 => ?_)
      · refine ExL.nil ?_
        refine Ex.cond_t rfl ?_
        refine Ex.skip ?_
        refine Ex.seq ?_
        refine Ex.block ?_
        refine Ex.drawSeqM rfl ?_
        refine ExD.take (i := 0) rfl (by kernel_rfl) (pureVal_ok rfl) ((List.Sublist.refl _)) rfl rfl rfl ?_
        refine ExD.take (i := 1) rfl (by kernel_rfl) (pureVal_ok rfl) ((List.Sublist.refl _)) rfl rfl rfl ?_
        refine ExD.take (i := 2) rfl (by kernel_rfl) (Free.val (((k - 1 : Nat) : Int)) (fr_sub64 rfl rfl rfl (by omega)) (by omega)) ((List.Sublist.refl _)) rfl rfl rfl ?_
        refine ExD.take (i := 3) rfl (by kernel_rfl) (fr_indexAddr (sz := 2) rfl rfl rfl rfl rfl rfl (by omega)) ((List.Sublist.refl _)) rfl rfl rfl ?_
        refine ExD.take (i := 4) rfl (by kernel_rfl) (fr_loadN rfl rfl rfl rfl rfl (segJ ((k - 1)) (Reads.row (i := 0) rfl) encP_len rfl zP (by omega) (by omega))) ((List.Sublist.refl _)) rfl rfl rfl ?_
        refine ExD.take (i := 5) rfl (by kernel_rfl) (pureVal_ok rfl) ((List.Sublist.refl _)) rfl rfl rfl ?_
        refine ExD.take (i := 6) rfl (by kernel_rfl) (pureVal_ok rfl) ((List.Sublist.refl _)) rfl rfl rfl ?_
        refine ExD.take (i := 7) rfl (by kernel_rfl) (fr_indexAddr (sz := 2) rfl rfl rfl rfl rfl rfl (by omega)) ((List.Sublist.refl _)) rfl rfl rfl ?_
        refine ExD.take (i := 8) rfl (by kernel_rfl) (fr_loadN rfl rfl rfl rfl rfl (segJ (k) (Reads.row (i := 0) rfl) encP_len rfl zP (by omega) (by omega))) ((List.Sublist.refl _)) rfl rfl rfl ?_
        refine ExD.alloc2 (i := 9) (j := 10) rfl rfl (by kernel_rfl) (by kernel_rfl) (by kernel_rfl) rfl rfl rfl rfl (fun _ => rfl) (fun _ => rfl) (List.Sublist.refl _) (Alc.of rfl rfl rfl rfl rfl) (Alc.of rfl rfl rfl rfl rfl) (fun b10 b11 => ?_)
        refine ExD.op (i := 11) rfl (by kernel_rfl) rfl (op_storeC (i := 1) rfl rfl rfl rfl rfl rfl rfl rfl rfl rfl ⟨(List.Sublist.cons _ (List.Sublist.cons _ (List.Sublist.refl _))), ?_⟩)
        refine ExD.last (i := 12) rfl (by kernel_rfl) (by kernel_rfl) rfl (op_storeC (i := 0) rfl rfl rfl rfl rfl rfl rfl rfl rfl rfl ?_)
        refine ExD.done (by kernel_rfl) ?_
        refine Ex.block ?_
        refine Ex.regSeq (ExL.pures 1 rfl ?_)
        refine ExL.free (fr_load rfl rfl rfl rfl (CellO.blk (i := 1) rfl rfl)) rfl rfl rfl ?_
        refine ExL.pures 1 rfl ?_
        refine ExL.free (fr_load rfl rfl rfl rfl (CellO.blk (i := 0) rfl rfl)) rfl rfl rfl ?_
        refine ExL.eql rfl rfl rfl rfl rfl rfl (fun h12 => ?_) (fun h12 => ?_)
        · refine ExL.pures 1 rfl ?_
          refine ExL.nil ?_
          refine Ex.cond_t rfl ?_
          have hmv := mer_8 hvv (cf_twice hTs hTt (i := k - 1) (by omega) (by rw [show k - 1 + 1 = k by omega]; assumption))
          refine Ex.regSeq (ExL.pures 2 rfl ?_)
          refine ExL.nil ?_
          refine Ex.nilRow 39 2 ?_
          refine Ex.ret ?_
          refine RetQ.mk (none, 0) rfl (.tmp rfl (.tmp rfl .nil)) (t2 (by rw [hmv]; first | done | rfl) (vI (by rw [hmv]; first | done | rfl))) [0] (by rw [hmv]; first | done | rfl) rfl (trivial)
        · refine ExL.pures 1 rfl ?_
          refine ExL.nil ?_
          refine Ex.cond_f rfl ?_
          refine Ex.regSeq (ExL.pures 1 rfl ?_)
          refine ExL.free (fr_load rfl rfl rfl rfl (CellO.blk (i := 1) rfl rfl)) rfl rfl rfl ?_
          refine ExL.pures 1 rfl ?_
          refine ExL.free (fr_load rfl rfl rfl rfl (CellO.blk (i := 0) rfl rfl)) rfl rfl rfl ?_
          refine ExL.gtr rfl rfl rfl rfl rfl rfl (fun h13 => ?_) (fun h13 => ?_)
          · refine ExL.pures 1 rfl ?_
            refine ExL.nil ?_
            refine Ex.cond_t rfl ?_
            refine Ex.region (ExL.pures 1 rfl ?_)
            refine ExL.nil ?_
            refine Ex.region (ExL.pures 1 rfl ?_)
            refine ExL.free (by first | exact fr_add64 rfl rfl rfl (by omega) | exact fr_add rfl rfl rfl) rfl rfl rfl ?_
            refine ExL.pures 1 rfl ?_
            refine ExL.nil ?_
            refine Hand.mk (k + 1) 3 [2] ⟨agI (by first | rw [codeK_y hk1 (by omega)] | rw [codeK_n hk1 (by omega)]), rfl, trivial⟩ ⟨rfl, trivial⟩ (rfl) rfl (⟨by omega, by omega, fun i hi => by rcases Nat.lt_or_ge (i + 1) k with h9 | h9; exact hall i h9; obtain rfl : i = k - 1 := (by omega); rw [show k - 1 + 1 = k by omega]; assumption⟩) (by omega)
          · refine ExL.pures 1 rfl ?_
            refine ExL.nil ?_
            refine Ex.cond_f rfl ?_
            refine Ex.skip ?_
            refine Ex.region (ExL.pures 1 rfl ?_)
            refine ExL.free (by first | exact fr_add64 rfl rfl rfl (by omega) | exact fr_add rfl rfl rfl) rfl rfl rfl ?_
            refine ExL.pures 1 rfl ?_
            refine ExL.nil ?_
            refine Hand.mk (k + 1) 3 [2] ⟨agI (by first | rw [codeK_y hk1 (by omega)] | rw [codeK_n hk1 (by omega)]), rfl, trivial⟩ ⟨rfl, trivial⟩ (rfl) rfl (⟨by omega, by omega, fun i hi => by rcases Nat.lt_or_ge (i + 1) k with h9 | h9; exact hall i h9; obtain rfl : i = k - 1 := (by omega); rw [show k - 1 + 1 = k by omega]; assumption⟩) (by omega)
      · refine ExL.nil ?_
        refine Ex.cond_f rfl ?_
        refine Ex.exit ?_
        have hke : k = (cpt (mrg s t)).length := by omega
        obtain ⟨hcf, hce⟩ := cf_once hTs hTt (fun i hi => hall i (by omega))
        have hcd := codeK_end (l := (cpt (mrg s t))) (k := k) (by omega) (.inr hke)
        refine Ex.seq ?_
        refine Ex.regSeq (ExL.pures 1 rfl ?_)
        refine ExL.eql rfl rfl rfl rfl rfl rfl (fun h14 => ?_) (fun h14 => ?_)
        · refine ExL.pures 3 rfl ?_
          refine ExL.gtr rfl rfl rfl rfl rfl rfl (fun h15 => ?_) (fun h15 => ?_)
          · refine ExL.pures 1 rfl ?_
            refine ExL.nil ?_
            refine Ex.cond_t rfl ?_
            refine Ex.region (ExL.pures 1 rfl ?_)
            refine ExL.nil ?_
            refine Ex.seq ?_
            refine Ex.regSeq (ExL.pures 1 rfl ?_)
            refine ExL.neq rfl rfl rfl rfl rfl rfl (fun h16 => ?_) (fun h16 => ?_)
            · refine ExL.nil ?_
              refine Ex.cond_t rfl ?_
              have hu : upB (cpt (mrg s t)) = true := by cases hu : upB (cpt (mrg s t)) with | true => rfl | false => (rw [hu] at hcd; exfalso; simp at hcd; omega)
              have hmv := mer_3 hvv hcf (by rw [← hce]; exact hu) (by rw [← hce]; omega)
              refine Ex.regSeq (ExL.pures 3 rfl ?_)
              refine ExL.nil ?_
              refine Ex.nilRow 39 2 ?_
              refine Ex.ret ?_
              refine RetQ.mk (none, 0) rfl (.tmp rfl (.tmp rfl .nil)) (t2 (by rw [hmv]; first | done | rfl) (vI (by rw [hmv]; first | done | rfl))) [0] (by rw [hmv]; first | done | rfl) rfl (trivial)
            · refine ExL.nil ?_
              refine Ex.cond_f rfl ?_
              refine Ex.skip ?_
              have hmv := mer_0 hvv hcf (by rw [← hce]; cases hu : upB (cpt (mrg s t)) with | true => rfl | false => (rw [hu] at hcd; exfalso; simp at hcd; omega)) (by rw [← hce]; omega)
              rw [← hce] at hmv
              refine Ex.regSeq (ExL.pures 3 rfl ?_)
              refine ExL.nil ?_
              refine Ex.ret ?_
              refine RetQ.mk ((some a0), x6.2) rfl (.tmp rfl (.tmp rfl .nil)) (t2 (by rw [hmv]; first | done | rfl) (vI (by rw [hmv]; first | done | rfl))) [0] (by rw [hmv]; first | done | rfl) rfl (trivial)
          · refine ExL.pures 1 rfl ?_
            refine ExL.nil ?_
            refine Ex.cond_f rfl ?_
            refine Ex.skip ?_
            refine Ex.seq ?_
            refine Ex.regSeq (ExL.pures 1 rfl ?_)
            refine ExL.neq rfl rfl rfl rfl rfl rfl (fun h17 => ?_) (fun h17 => ?_)
            · refine ExL.nil ?_
              refine Ex.cond_t rfl ?_
              have hu : upB (cpt (mrg s t)) = false := by cases hu : upB (cpt (mrg s t)) with | false => rfl | true => (rw [hu] at hcd; exfalso; simp at hcd; omega)
              have hmv := mer_4 hvv hcf (by rw [← hce]; exact hu)
              rw [hu] at hcd
              rw [show codeK (cpt (mrg s t)) k = 4 from hcd]
              refine Ex.regSeq (ExL.pures 3 rfl ?_)
              refine ExL.nil ?_
              refine Ex.nilRow 39 2 ?_
              refine Ex.ret ?_
              refine RetQ.mk (none, 0) rfl (.tmp rfl (.tmp rfl .nil)) (t2 (by rw [hmv]; first | done | rfl) (vI (by rw [hmv]; first | done | rfl))) [0] (by rw [hmv]; first | done | rfl) rfl (trivial)
            · refine ExL.nil ?_
              refine Ex.cond_f rfl ?_
              refine Ex.skip ?_
              have hmv := mer_0 hvv hcf (by rw [← hce]; cases hu : upB (cpt (mrg s t)) with | true => rfl | false => (rw [hu] at hcd; exfalso; simp at hcd; omega)) (by rw [← hce]; omega)
              rw [← hce] at hmv
              refine Ex.regSeq (ExL.pures 3 rfl ?_)
              refine ExL.nil ?_
              refine Ex.ret ?_
              refine RetQ.mk ((some a0), x6.2) rfl (.tmp rfl (.tmp rfl .nil)) (t2 (by rw [hmv]; first | done | rfl) (vI (by rw [hmv]; first | done | rfl))) [0] (by rw [hmv]; first | done | rfl) rfl (trivial)
        · refine ExL.pures 5 rfl ?_
          refine ExL.nil ?_
          refine Ex.cond_f rfl ?_
          refine Ex.skip ?_
          refine Ex.seq ?_
          refine Ex.regSeq (ExL.pures 1 rfl ?_)
          refine ExL.neq rfl rfl rfl rfl rfl rfl (fun h18 => ?_) (fun h18 => ?_)
          · refine ExL.nil ?_
            refine Ex.cond_t rfl ?_
            have hu : upB (cpt (mrg s t)) = false := by cases hu : upB (cpt (mrg s t)) with | false => rfl | true => (rw [hu] at hcd; exfalso; simp at hcd; omega)
            have hmv := mer_4 hvv hcf (by rw [← hce]; exact hu)
            rw [hu] at hcd
            rw [show codeK (cpt (mrg s t)) k = 4 from hcd]
            refine Ex.regSeq (ExL.pures 3 rfl ?_)
            refine ExL.nil ?_
            refine Ex.nilRow 39 2 ?_
            refine Ex.ret ?_
            refine RetQ.mk (none, 0) rfl (.tmp rfl (.tmp rfl .nil)) (t2 (by rw [hmv]; first | done | rfl) (vI (by rw [hmv]; first | done | rfl))) [0] (by rw [hmv]; first | done | rfl) rfl (trivial)
          · refine ExL.nil ?_
            refine Ex.cond_f rfl ?_
            refine Ex.skip ?_
            have hmv := mer_0 hvv hcf (by rw [← hce]; cases hu : upB (cpt (mrg s t)) with | true => rfl | false => (rw [hu] at hcd; exfalso; simp at hcd; omega)) (by rw [← hce]; omega)
            rw [← hce] at hmv
            refine Ex.regSeq (ExL.pures 3 rfl ?_)
            refine ExL.nil ?_
            refine Ex.ret ?_
            refine RetQ.mk ((some a0), x6.2) rfl (.tmp rfl (.tmp rfl .nil)) (t2 (by rw [hmv]; first | done | rfl) (vI (by rw [hmv]; first | done | rfl))) [0] (by rw [hmv]; first | done | rfl) rfl (trivial)
theorem c_iMerge_z (As : Option Addr) (cs : Nat) (At : Option Addr) (ct : Nat) (hAs : As = none → cs = 0) (hAt : At = none → ct = 0) : Ret Tryz.prog 19 [.slice As 0 cs, .slice At 0 ct] (fun w => True) (fun x : Option Addr × Nat => .tuple #[.slice x.1 (merV [] []).1.length x.2, .int .i64 (merV [] []).2]) (fun x => [.row (.slice x.1 ((merV [] []).1).length x.2) 39 2 ((merV [] []).1).length (((merV [] []).1).flatMap encP)]) (fun x => True) := by
  refine Ret.of e_19 Tryz.func19 rfl Tryz.ntmps19 rfl rfl (fun w hpre => ?_)
  have hm0 : maxLen = 9223372036854775807 := rfl
  have hz1 : ([] : List VP).length = 0 := rfl
  have hz2 : (cpt ([] : List VP)).length = 0 := rfl
  have hv0 : validTot ([] : List VP) = true := by decide
  have hmv := mer_z
  have hs : RdB w.heap.size w As (([] : List VP).flatMap encP) := fun j u hj => by simp at hj
  have ht : RdB w.heap.size w At (([] : List VP).flatMap encP) := fun j u hj => by simp at hj
  refine Ex.regSeq (ExL.pures 2 rfl ?_)
  refine ExL.nil ?_
  refine Ex.seq ?_
  refine Ex.regSeq (ExL.pures 1 rfl ?_)
  refine ExL.op rfl (op_ret rfl rfl rfl (c_ValidTotals ([] : List VP) _ _ (by omega)) (Reads.get (Reads.old hs)) rfl rfl (fun x1 hx1 => ?_))
  refine ExL.pures 2 rfl ?_
  refine ExL.bool (d := 14) rfl (fun hb2 => ?_) (fun hb2 => ?_)
  · replace hb2 := nb_t hb2
    refine ExL.pures 4 rfl ?_
    refine ExL.nil ?_
    refine Ex.cond_t rfl ?_
    exfalso; simp_all
  · replace hb2 := nb_f hb2
    refine ExL.pures 1 rfl ?_
    refine ExL.op rfl (op_ret rfl rfl rfl (c_ValidTotals ([] : List VP) _ _ (by omega)) (Reads.get (Reads.old ht)) rfl rfl (fun x3 hx3 => ?_))
    refine ExL.pures 2 rfl ?_
    refine ExL.nil ?_
    refine Ex.cond rfl (fun hb4 => ?_) (fun hb4 => ?_)
    · replace hb4 := nb_t hb4
      exfalso; simp_all
    · replace hb4 := nb_f hb4
      refine Ex.skip ?_
      refine Ex.regSeq (ExL.pures 2 rfl ?_)
      refine ExL.op rfl (op_buildSlice (sz := 1) rfl rfl rfl rfl rfl rfl rfl rfl (by decide) rfl rfl rfl (fun r5 => ?_))
      refine ExL.op rfl (op_ret rfl rfl rfl (c_ConcatT ([⟨As, cs, []⟩, ⟨At, ct, []⟩] : List (VX VP)) _ _ (by show 0 ≤ 1000000; omega) (by show 2 ≤ 1000000; omega) (nil2 (fun e => ⟨rfl, hAs e⟩) (fun e => ⟨rfl, hAt e⟩))) (fun w hw => ⟨Reads.get (Reads.row (i := 0) rfl) w hw, reads2 (fun j u hj => by simp at hj) (fun j u hj => by simp at hj)⟩) rfl rfl (fun x6 hx6 => ?_))
      refine ExL.pures 1 rfl ?_
      refine ExL.nil ?_
      refine Ex.regSeq (ExL.pures 1 rfl ?_)
      refine ExL.op rfl (op_mut rfl rfl rfl (c_SortStable0 _ _) (perm_at (i := 0) rfl) (trivial) rfl rfl (fun x7 hx7 => ?_))
      refine ExL.nil ?_
      refine Ex.regSeq (ExL.pures 1 rfl ?_)
      refine ExL.op rfl (op_mut rfl rfl rfl (c_Compact ([] : List VP) _ 0 _ rfl (by omega)) (perm_at (i := 0) rfl) (trivial) rfl rfl (fun x8 hx8 => ?_))
      refine ExL.pures 1 rfl ?_
      refine ExL.nil ?_
      refine Ex.regSeq (ExL.pures 1 rfl ?_)
      refine ExL.nil ?_
      refine Ex.seq ?_
      refine Ex.regSeq (ExL.pures 1 rfl ?_)
      refine ExL.nil ?_
      refine Ex.block ?_
      refine Ex.loopK (X := Nat) (fun k => [(7, .int .i64 0), (8, .int .i64 1)]) (fun k => []) (fun k => True) (fun k => 0) 0 [(6, _)] [_] 2 [0] ⟨rfl, rfl, trivial⟩ ⟨rfl, trivial⟩ (rfl) rfl trivial (fun k hI => ?_)
      have hI : True := hI
      refine Ex.seq ?_
      refine Ex.regSeq (ExL.pures 3 rfl ?_)
      refine ExL.free (fr_lss_f rfl rfl rfl (by omega)) rfl rfl rfl ?_
      refine ExL.nil ?_
      refine Ex.cond_f rfl ?_
      refine Ex.exit ?_
      refine Ex.seq ?_
      refine Ex.regSeq (ExL.pures 1 rfl ?_)
      refine ExL.free (fr_eql_t rfl rfl rfl (rfl)) rfl rfl rfl ?_
      refine ExL.pures 3 rfl ?_
      refine ExL.free (fr_gtr_f rfl rfl rfl (by omega)) rfl rfl rfl ?_
      refine ExL.pures 1 rfl ?_
      refine ExL.nil ?_
      refine Ex.cond_f rfl ?_
      refine Ex.skip ?_
      refine Ex.seq ?_
      refine Ex.regSeq (ExL.pures 1 rfl ?_)
      refine ExL.free (fr_neq_f rfl rfl rfl (by omega)) rfl rfl rfl ?_
      refine ExL.nil ?_
      refine Ex.cond_f rfl ?_
      refine Ex.skip ?_
      refine Ex.regSeq (ExL.pures 3 rfl ?_)
      refine ExL.nil ?_
      refine Ex.ret ?_
      refine RetQ.mk (x6.1, x6.2) rfl (.tmp rfl (.tmp rfl .nil)) (t2 (by rw [hmv]; first | done | rfl) (vI (by rw [hmv]; first | done | rfl))) [0] (by rw [hmv]; first | done | rfl) rfl (trivial)
theorem c_iMergeTotals (s : List VP) (As : Option Addr) (cs : Nat) (hls : s.length ≤ maxLen) (t : List VP) (At : Option Addr) (ct : Nat) (hlt : t.length ≤ maxLen) (hAs : As = none → cs = 0) (hAt : At = none → ct = 0) : Ret Tryz.prog 19 [.slice As s.length cs, .slice At t.length ct] (fun w => Rd w As (s.flatMap encP) ∧ Rd w At (t.flatMap encP)) (fun x : Option Addr × Nat => .tuple #[.slice x.1 (merV s t).1.length x.2, .int .i64 (merV s t).2]) (fun x => [.row (.slice x.1 ((merV s t).1).length x.2) 39 2 ((merV s t).1).length (((merV s t).1).flatMap encP)]) (fun x => True) := by
  rcases Nat.eq_zero_or_pos (s.length + t.length) with h | h
  · obtain rfl : s = [] := List.eq_nil_of_length_eq_zero (by omega)
    obtain rfl : t = [] := List.eq_nil_of_length_eq_zero (by omega)
    have h0 := c_iMerge_z As cs At ct hAs hAt
    exact ⟨h0.1, fun w _ => h0.2 w trivial⟩
  · exact c_iMerge_n s As cs hls t At ct hlt hAs hAt h
end Go.Proofs.YtniimollalcjnaaGreatDoor

/- What these functions of the program hand back, each proved by walking its operations. -/
set_option linter.unusedVariables false
set_option linter.unusedSimpArgs false
set_option maxRecDepth 4000
namespace Go.Proofs.YtniimollalcjnaaGreatDoor
open Go Go.Sx Go.RowKit Go.W Go.Proofs
attribute [local irreducible] Ex ExL ExD Op1 Free RetQ MutQ Reads CellO SegO LoadsAs
end Go.Proofs.YtniimollalcjnaaGreatDoor

/- What these functions of the program hand back, each proved by walking its operations. -/
set_option linter.unusedVariables false
set_option linter.unusedSimpArgs false
set_option maxRecDepth 4000
namespace Go.Proofs.YtniimollalcjnaaGreatDoor
open Go Go.Sx Go.RowKit Go.W Go.Proofs
attribute [local irreducible] Ex ExL ExD Op1 Free RetQ MutQ Reads CellO SegO LoadsAs
end Go.Proofs.YtniimollalcjnaaGreatDoor

/- What these functions of the program hand back, each proved by walking its operations. -/
set_option linter.unusedVariables false
set_option linter.unusedSimpArgs false
set_option maxRecDepth 4000
namespace Go.Proofs.YtniimollalcjnaaGreatDoor
open Go Go.Sx Go.RowKit Go.W Go.Proofs
attribute [local irreducible] Ex ExL ExD Op1 Free RetQ MutQ Reads CellO SegO LoadsAs
theorem e_40 : Enters Tryz.prog 40 := Enters.of Tryz.func40 rfl
theorem c_covers (l : List VP) (Al : Option Addr) (cl : Nat) (hll : l.length ≤ maxLen) (day : Int) : Ret Tryz.prog 40 [.slice Al l.length cl, .int .i64 day] (fun w => Rd w Al (l.flatMap encP)) (fun x : Unit => .bool (onW l day).2) (fun x => []) (fun x => True) := by
  refine Ret.of e_40 Tryz.func40 rfl Tryz.ntmps40 rfl rfl (fun w hpre => ?_)
  have hl := hpre.base
  have hm0 : maxLen = 9223372036854775807 := rfl
  refine Ex.regSeq (ExL.pures 1 rfl ?_)
  refine ExL.nil ?_
  refine Ex.drawSeqM rfl ?_
  refine ExD.take (i := 0) rfl (by kernel_rfl) (pureVal_ok rfl) ((List.Sublist.refl _)) rfl rfl rfl ?_
  refine ExD.take (i := 1) rfl (by kernel_rfl) (pureVal_ok rfl) ((List.Sublist.refl _)) rfl rfl rfl ?_
  refine ExD.cmp_gtr (i := 2) rfl (by kernel_rfl) rfl rfl rfl ((List.Sublist.refl _)) rfl rfl rfl (fun h1 => ?_) (fun h1 => ?_)
  · refine ExD.take (i := 3) rfl (by kernel_rfl) (pureVal_ok rfl) ((List.Sublist.refl _)) rfl rfl rfl ?_
    refine ExD.take (i := 4) rfl (by kernel_rfl) (pureVal_ok rfl) ((List.Sublist.refl _)) rfl rfl rfl ?_
    refine ExD.take (i := 5) rfl (by kernel_rfl) (pureVal_ok rfl) ((List.Sublist.refl _)) rfl rfl rfl ?_
    refine ExD.take (i := 6) rfl (by kernel_rfl) (fr_indexAddrF (Reads.old hl) encP_len rfl rfl rfl rfl rfl rfl (by omega)) ((List.Sublist.refl _)) rfl rfl rfl ?_
    refine ExD.take (i := 7) rfl (by kernel_rfl) (fr_fieldAddrF (i := (0 : Int).toNat) (Reads.old hl) encP_len rfl rfl rfl (by omega) rfl rfl rfl rfl) ((List.Sublist.refl _)) rfl rfl rfl ?_
    refine ExD.take (i := 8) rfl (by kernel_rfl) (fr_load rfl rfl rfl rfl (cellJ (i := 0) (0) (Reads.old hl) encP_len zP 0 rfl (by omega) (by omega) rfl)) ((List.Sublist.refl _)) rfl rfl rfl ?_
    refine ExD.take (i := 9) rfl (by kernel_rfl) (pureVal_ok rfl) ((List.Sublist.refl _)) rfl rfl rfl ?_
    refine ExD.take (i := 10) rfl (by kernel_rfl) (pureVal_ok rfl) ((List.Sublist.refl _)) rfl rfl rfl ?_
    refine ExD.take (i := 11) rfl (by kernel_rfl) (pureVal_ok rfl) ((List.Sublist.refl _)) rfl rfl rfl ?_
    refine ExD.take (i := 12) rfl (by kernel_rfl) (by first | exact fr_sub64 rfl rfl rfl (by omega) | exact fr_sub rfl rfl rfl) ((List.Sublist.refl _)) rfl rfl rfl ?_
    refine ExD.take (i := 13) rfl (by kernel_rfl) (fr_indexAddrF (Reads.old hl) encP_len rfl rfl rfl rfl rfl rfl (by omega)) ((List.Sublist.refl _)) rfl rfl rfl ?_
    refine ExD.take (i := 14) rfl (by kernel_rfl) (fr_fieldAddrF (i := ((l.length - 1) : Int).toNat) (Reads.old hl) encP_len rfl rfl rfl (by omega) rfl rfl rfl rfl) ((List.Sublist.refl _)) rfl rfl rfl ?_
    refine ExD.take (i := 15) rfl (by kernel_rfl) (fr_load rfl rfl rfl rfl (cellJ (i := (l.length - 1)) ((l.length - 1)) (Reads.old hl) encP_len zP 0 rfl (by omega) (by omega) rfl)) ((List.Sublist.refl _)) rfl rfl rfl ?_
    refine ExD.op (i := 16) rfl (by kernel_rfl) rfl (op_ret rfl rfl rfl (c_within _ _ _) (fun _ _ => trivial) rfl rfl (fun x2 hx2 => ⟨(List.Sublist.refl _), ?_⟩))
    refine ExD.take (i := 17) rfl (by kernel_rfl) (pureVal_ok rfl) ((List.Sublist.refl _)) rfl rfl rfl ?_
    refine ExD.take (i := 18) rfl (by kernel_rfl) (pureVal_ok rfl) ((List.Sublist.refl _)) rfl rfl rfl ?_
    refine ExD.done (by kernel_rfl) ?_
    refine Ex.ret ?_
    refine RetQ.mk () rfl (.tmp rfl .nil) (tB (by rw [ow_dec]; first | exact dec_f (by omega) | exact decide_eq_decide.2 (by omega))) [] (rfl) rfl (trivial)
  · refine ExD.take (i := 3) rfl (by kernel_rfl) (pureVal_ok rfl) ((List.Sublist.refl _)) rfl rfl rfl ?_
    refine ExD.pass (i := 4) rfl (by kernel_rfl) ((List.Sublist.refl _)) rfl rfl rfl ?_
    refine ExD.pass (i := 5) rfl (by kernel_rfl) ((List.Sublist.refl _)) rfl rfl rfl ?_
    refine ExD.pass (i := 6) rfl (by kernel_rfl) ((List.Sublist.refl _)) rfl rfl rfl ?_
    refine ExD.pass (i := 7) rfl (by kernel_rfl) ((List.Sublist.refl _)) rfl rfl rfl ?_
    refine ExD.pass (i := 8) rfl (by kernel_rfl) ((List.Sublist.refl _)) rfl rfl rfl ?_
    refine ExD.pass (i := 9) rfl (by kernel_rfl) ((List.Sublist.refl _)) rfl rfl rfl ?_
    refine ExD.pass (i := 10) rfl (by kernel_rfl) ((List.Sublist.refl _)) rfl rfl rfl ?_
    refine ExD.pass (i := 11) rfl (by kernel_rfl) ((List.Sublist.refl _)) rfl rfl rfl ?_
    refine ExD.pass (i := 12) rfl (by kernel_rfl) ((List.Sublist.refl _)) rfl rfl rfl ?_
    refine ExD.pass (i := 13) rfl (by kernel_rfl) ((List.Sublist.refl _)) rfl rfl rfl ?_
    refine ExD.pass (i := 14) rfl (by kernel_rfl) ((List.Sublist.refl _)) rfl rfl rfl ?_
    refine ExD.pass (i := 15) rfl (by kernel_rfl) ((List.Sublist.refl _)) rfl rfl rfl ?_
    refine ExD.pass (i := 16) rfl (by kernel_rfl) ((List.Sublist.refl _)) rfl rfl rfl ?_
    refine ExD.take (i := 17) rfl (by kernel_rfl) (pureVal_ok rfl) ((List.Sublist.refl _)) rfl rfl rfl ?_
    refine ExD.take (i := 18) rfl (by kernel_rfl) (pureVal_ok rfl) ((List.Sublist.refl _)) rfl rfl rfl ?_
    refine ExD.done (by kernel_rfl) ?_
    refine Ex.ret ?_
    refine RetQ.mk () rfl (.tmp rfl .nil) (tB (by rw [ow_dec]; first | exact dec_f (by omega) | exact decide_eq_decide.2 (by omega))) [] (rfl) rfl (trivial)
theorem e_18 : Enters Tryz.prog 18 := Enters.of Tryz.func18 rfl
theorem c_iCountOn (l : List VP) (hv : validTot l = true) (Al : Option Addr) (cl : Nat) (hll : l.length ≤ maxLen) (day : Int) : Ret Tryz.prog 18 [.slice Al l.length cl, .int .i64 day] (fun w => Rd w Al (l.flatMap encP)) (fun x : Unit => .tuple #[.int .i64 (conV l day).1, .int .i64 (conV l day).2]) (fun x => []) (fun x => True) := by
  refine Ret.of e_18 Tryz.func18 rfl Tryz.ntmps18 rfl rfl (fun w hpre => ?_)
  have hl := hpre.base
  have hT := tot hv
  have hm0 : maxLen = 9223372036854775807 := rfl
  refine Ex.regSeq (ExL.pures 2 rfl ?_)
  refine ExL.nil ?_
  refine Ex.seq ?_
  refine Ex.block ?_
  refine Ex.regSeq (ExL.pures 1 rfl ?_)
  refine ExL.op rfl (op_ret rfl rfl rfl (c_ValidTotals l _ _ (by omega)) (Reads.get (Reads.old hl)) rfl rfl (fun x1 hx1 => ?_))
  refine ExL.pures 2 rfl ?_
  refine ExL.nil ?_
  refine Ex.cond rfl (fun hb2 => ?_) (fun hb2 => ?_)
  · replace hb2 := nb_t hb2
    refine Ex.regSeq (ExL.pures 2 rfl ?_)
    refine ExL.nil ?_
    refine Ex.ret ?_
    refine RetQ.mk () rfl (.tmp rfl (.tmp rfl .nil)) (t2 (vI (by first | (rw [con_2 (by assumption)]; first | done | rfl) | (rw [con_6 (by assumption) (by assumption)]; first | done | rfl) | (rw [con_0 (by assumption) (by assumption)]; first | done | rfl) | (rw [con_0' (by assumption) (cov_of (by assumption))]; first | done | rfl) | (exfalso; simp_all; done))) (vI (by first | (rw [con_2 (by assumption)]; first | done | rfl) | (rw [con_6 (by assumption) (by assumption)]; first | done | rfl) | (rw [con_0 (by assumption) (by assumption)]; first | done | rfl) | (rw [con_0' (by assumption) (cov_of (by assumption))]; first | done | rfl) | (exfalso; simp_all; done)))) [] (rfl) rfl (trivial)
  · replace hb2 := nb_f hb2
    refine Ex.regSeq (ExL.pures 1 rfl ?_)
    refine ExL.op rfl (op_ret rfl rfl rfl (c_within _ _ _) (fun _ _ => trivial) rfl rfl (fun x3 hx3 => ?_))
    refine ExL.pures 2 rfl ?_
    refine ExL.nil ?_
    refine Ex.cond rfl (fun hb4 => ?_) (fun hb4 => ?_)
    · replace hb4 := nd_t hb4
      refine Ex.regSeq (ExL.pures 2 rfl ?_)
      refine ExL.nil ?_
      refine Ex.ret ?_
      refine RetQ.mk () rfl (.tmp rfl (.tmp rfl .nil)) (t2 (vI (by first | (rw [con_2 (by assumption)]; first | done | rfl) | (rw [con_6 (by assumption) (by assumption)]; first | done | rfl) | (rw [con_0 (by assumption) (by assumption)]; first | done | rfl) | (rw [con_0' (by assumption) (cov_of (by assumption))]; first | done | rfl) | (exfalso; simp_all; done))) (vI (by first | (rw [con_2 (by assumption)]; first | done | rfl) | (rw [con_6 (by assumption) (by assumption)]; first | done | rfl) | (rw [con_0 (by assumption) (by assumption)]; first | done | rfl) | (rw [con_0' (by assumption) (cov_of (by assumption))]; first | done | rfl) | (exfalso; simp_all; done)))) [] (rfl) rfl (trivial)
    · replace hb4 := nd_f hb4
      refine Ex.regSeq (ExL.pures 2 rfl ?_)
      refine ExL.op rfl (op_ret rfl rfl rfl (c_covers l _ _ (by omega) day) (Reads.get (Reads.old hl)) rfl rfl (fun x5 hx5 => ?_))
      refine ExL.pures 2 rfl ?_
      refine ExL.nil ?_
      refine Ex.cond rfl (fun hb6 => ?_) (fun hb6 => ?_)
      · replace hb6 := nb_t hb6
        refine Ex.regSeq (ExL.pures 2 rfl ?_)
        refine ExL.nil ?_
        refine Ex.ret ?_
        refine RetQ.mk () rfl (.tmp rfl (.tmp rfl .nil)) (t2 (vI (by first | (rw [con_2 (by assumption)]; first | done | rfl) | (rw [con_6 (by assumption) (by assumption)]; first | done | rfl) | (rw [con_0 (by assumption) (by assumption)]; first | done | rfl) | (rw [con_0' (by assumption) (cov_of (by assumption))]; first | done | rfl) | (exfalso; simp_all; done))) (vI (by first | (rw [con_2 (by assumption)]; first | done | rfl) | (rw [con_6 (by assumption) (by assumption)]; first | done | rfl) | (rw [con_0 (by assumption) (by assumption)]; first | done | rfl) | (rw [con_0' (by assumption) (cov_of (by assumption))]; first | done | rfl) | (exfalso; simp_all; done)))) [] (rfl) rfl (trivial)
      · replace hb6 := nb_f hb6
        refine Ex.skip ?_
        refine Ex.regSeq (ExL.pures 2 rfl ?_)
        refine ExL.op rfl (op_ret rfl rfl rfl (c_countOn l (by assumption) _ _ (by omega) _ (cov_of (by assumption))) (Reads.get (Reads.old hl)) rfl rfl (fun x7 hx7 => ?_))
        refine ExL.pures 2 rfl ?_
        refine ExL.nil ?_
        refine Ex.ret ?_
        refine RetQ.mk () rfl (.tmp rfl (.tmp rfl .nil)) (t2 (vI (by first | (rw [con_2 (by assumption)]; first | done | rfl) | (rw [con_6 (by assumption) (by assumption)]; first | done | rfl) | (rw [con_0 (by assumption) (by assumption)]; first | done | rfl) | (rw [con_0' (by assumption) (cov_of (by assumption))]; first | done | rfl) | (exfalso; simp_all; done))) (vI (by first | (rw [con_2 (by assumption)]; first | done | rfl) | (rw [con_6 (by assumption) (by assumption)]; first | done | rfl) | (rw [con_0 (by assumption) (by assumption)]; first | done | rfl) | (rw [con_0' (by assumption) (cov_of (by assumption))]; first | done | rfl) | (exfalso; simp_all; done)))) [] (rfl) rfl (trivial)
end Go.Proofs.YtniimollalcjnaaGreatDoor

/- What these functions of the program hand back, each proved by walking its operations. -/
set_option linter.unusedVariables false
set_option linter.unusedSimpArgs false
set_option maxRecDepth 4000
namespace Go.Proofs.YtniimollalcjnaaGreatDoor
open Go Go.Sx Go.RowKit Go.W Go.Proofs
attribute [local irreducible] Ex ExL ExD Op1 Free RetQ MutQ Reads CellO SegO LoadsAs
theorem e_3 : Enters Tryz.prog 3 := Enters.of Tryz.func3 rfl
set_option maxHeartbeats 2000000 in
theorem w_FnTotals (s : List Int) (hus : Nums 255 s) (As : Option Addr) (cs : Nat) (hls : s.length ≤ maxLen) (t : List Int) (hut : Nums 255 t) (At : Option Addr) (ct : Nat) (hlt : t.length ≤ maxLen) : Ret Tryz.prog 3 [.slice As s.length cs, .slice At t.length ct] (fun w => (Rd w As (s.flatMap (eI .u8)) ∧ Rd w At (t.flatMap (eI .u8))) ∧ RdO 0 1 2 w ∧ TabO Tryz.prog w) (fun x : Unit => .bool true) (fun x => []) (fun x => True) := by
  refine Ret.of e_3 Tryz.func3 rfl Tryz.ntmps3 rfl rfl (fun w hpre => ?_)
  have hs := hpre.1.1.base
  have ht := hpre.1.2.base
  have hrd := hpre.2.1
  have htab := hpre.2.2
  have hm0 : maxLen = 9223372036854775807 := rfl
  refine Ex.regSeq (ExL.pures 1 rfl ?_)
  refine ExL.nil ?_
  refine Ex.seq ?_
  refine Ex.regSeq (ExL.pures 2 rfl ?_)
  refine ExL.op rfl (op_ret rfl rfl rfl (c_a2Long s _ _ (by omega) t _ _ (by omega)) (fun _ _ => trivial) rfl rfl (fun x1 hx1 => ?_))
  refine ExL.nil ?_
  refine Ex.cond rfl (fun hb2 => ?_) (fun hb2 => ?_)
  · replace hb2 := of_decide_eq_true hb2
    refine Ex.regSeq (ExL.pures 1 rfl ?_)
    refine ExL.nil ?_
    refine Ex.ret ?_
    refine RetQ.mk () rfl (.tmp rfl .nil) (tB (by first | rfl | exact tot_valid hTf.tot | exact (tot_valid hTf.tot).symm | exact absurd rfl (by assumption) | exact absurd (hvt9.symm.trans (by assumption)) (by decide) | (exfalso; omega))) [] (rfl) rfl (trivial)
  · replace hb2 := of_decide_eq_false hb2
    refine Ex.skip ?_
    refine Ex.regSeq (ExL.pures 1 rfl ?_)
    refine ExL.op rfl (op_ret rfl rfl rfl (c_A2Totals s _ _ (by omega) (by assumption)) (Reads.get (Reads.old hs)) rfl rfl (fun x3 hx3 => ?_))
    obtain ⟨hTx3, hlx3, hdx3⟩ := hx3
    have hSx3 : Small x3.2 := ⟨hTx3, hlx3, hdx3⟩
    have hvx3 := tot_valid hTx3
    refine ExL.pures 1 rfl ?_
    refine ExL.nil ?_
    have hTt : Tot x3.2 := hTx3
    have hvt9 := hvx3
    have hln9 : x3.2.length ≤ 6 := hlx3
    have hsp9 := small_span hSx3
    have htx9 := totTx_le hvt9
    have hsb8 := cb_nn hTt
    have hcl8 := cb_len x3.2 hsp9
    refine Ex.regSeq (ExL.pures 1 rfl ?_)
    refine ExL.op rfl (op_ret rfl rfl rfl (c_iTotalsText x3.2 _ _ (by omega)) (fun w hw => ⟨Reads.get (Reads.row (i := 0) rfl) w hw, TabO.keep htab hw⟩) rfl rfl (fun x4 hx4 => ?_))
    refine ExL.op rfl (op_ret rfl rfl rfl (c_iReadTotals (totTx x3.2) (by omega)) (fun w hw => ⟨RdO.keep hrd hw, TabO.keep htab hw⟩) rfl rfl (fun x5 hx5 => ?_))
    refine ExL.pures 5 rfl ?_
    refine ExL.nil ?_
    refine Ex.seq ?_
    obtain ⟨hb1, hb2⟩ := tot_back hvt9 hx5
    rw [hb1, hb2]
    refine Ex.regSeq (ExL.pures 1 rfl ?_)
    refine ExL.free (fr_neq_f rfl rfl rfl (fun h => h rfl)) rfl rfl rfl ?_
    refine ExL.pures 3 rfl ?_
    refine ExL.op rfl (op_ret rfl rfl rfl (c_iSameTotals x3.2 _ _ (by omega) _ _) (fun w hw => ⟨Reads.get (Reads.row (i := 0) rfl) w hw, Reads.get (Reads.row (i := 1) rfl) w hw⟩) rfl rfl (fun x6 hx6 => ?_))
    refine ExL.pures 5 rfl ?_
    refine ExL.op rfl (op_ret rfl rfl rfl (c_sSameTotals x3.2 _ _ (by omega) _ _) (fun w hw => ⟨Reads.get (Reads.row (i := 0) rfl) w hw, Reads.get (Reads.row (i := 1) rfl) w hw⟩) rfl rfl (fun x7 hx7 => ?_))
    refine ExL.pures 4 rfl ?_
    refine ExL.op rfl (op_ret rfl rfl rfl (c_ValidTotals x3.2 _ _ (by omega)) (Reads.get (Reads.row (i := 1) rfl)) rfl rfl (fun x8 hx8 => ?_))
    refine ExL.pures 2 rfl ?_
    refine ExL.nil ?_
    refine Ex.cond rfl (fun hb9 => ?_) (fun hb9 => ?_)
    · replace hb9 := nb_t hb9
      refine Ex.regSeq (ExL.pures 1 rfl ?_)
      refine ExL.nil ?_
      refine Ex.ret ?_
      refine RetQ.mk () rfl (.tmp rfl .nil) (tB (by first | rfl | exact tot_valid hTf.tot | exact (tot_valid hTf.tot).symm | exact absurd rfl (by assumption) | exact absurd (hvt9.symm.trans (by assumption)) (by decide) | (exfalso; omega))) [] (rfl) rfl (trivial)
    · replace hb9 := nb_f hb9
      refine Ex.skip ?_
      refine Ex.regSeq (ExL.pures 1 rfl ?_)
      refine ExL.op rfl (op_ret rfl rfl rfl (c_a2At t hut _ _ (by omega) 0 (by omega) 256 (by omega)) (Reads.get (Reads.old ht)) rfl rfl (fun x10 hx10 => ?_))
      have hbax10 := aAt_bd (t := t) (i := 0) (n := 256) (by assumption) (by omega)
      refine ExL.free (by first | exact fr_mul64 rfl rfl rfl (by omega) | exact fr_mul rfl rfl rfl) rfl rfl rfl ?_
      refine ExL.pures 1 rfl ?_
      refine ExL.nil ?_
      obtain ⟨cv, hcv⟩ : ∃ z : Int, (7 * (aAt t 0 256)) = z := ⟨_, rfl⟩
      rw [hcv]
      have hcb9 : 0 ≤ cv ∧ cv ≤ 1000000000000 := by omega
      refine Ex.regSeq (ExL.pures 1 rfl ?_)
      refine ExL.op rfl (op_ret rfl rfl rfl (c_a2At t hut _ _ (by omega) 1 (by omega) 40 (by omega)) (Reads.get (Reads.old ht)) rfl rfl (fun x11 hx11 => ?_))
      have hbax11 := aAt_bd (t := t) (i := 1) (n := 40) (by assumption) (by omega)
      refine ExL.free (by first | exact fr_add64 rfl rfl rfl (by omega) | exact fr_add rfl rfl rfl) rfl rfl rfl ?_
      refine ExL.pures 1 rfl ?_
      refine ExL.nil ?_
      obtain ⟨dn, hdn⟩ : ∃ z : Nat, (1 + (aAt t 1 40)) = (z : Int) := ⟨((1 + (aAt t 1 40))).toNat, by omega⟩
      rw [hdn]
      have hdb9 : 1 ≤ dn ∧ dn ≤ 400 := by omega
      have hsb9 := sh_nn (n := dn) hcb9 hdb9.1
      have hsl9 := shL_len cv dn dn
      refine Ex.regSeq (ExL.pures 2 rfl ?_)
      refine ExL.op rfl (op_ret rfl rfl rfl (c_iShares cv (by omega) dn (by omega)) (fun _ _ => trivial) rfl rfl (fun x12 hx12 => ?_))
      refine ExL.pures 5 rfl ?_
      refine ExL.nil ?_
      refine Ex.regSeq (ExL.pures 2 rfl ?_)
      refine ExL.op rfl (op_ret rfl rfl rfl (c_sShares cv (by omega) dn (by omega)) (fun _ _ => trivial) rfl rfl (fun x13 hx13 => ?_))
      refine ExL.pures 5 rfl ?_
      refine ExL.nil ?_
      refine Ex.seq ?_
      refine Ex.regSeq (ExL.pures 2 rfl ?_)
      refine ExL.free (fr_neq_f rfl rfl rfl (fun h => h rfl)) rfl rfl rfl ?_
      refine ExL.pures 2 rfl ?_
      refine ExL.free (fr_neq_f rfl rfl rfl (fun h => h rfl)) rfl rfl rfl ?_
      refine ExL.pures 4 rfl ?_
      refine ExL.op rfl (op_ret rfl rfl rfl (c_A2Same (shL cv dn dn) (x12.1) (x12.2) (by omega) (shL cv dn dn) (x13.1) (x13.2) (by omega)) (fun w hw => ⟨Reads.get (Reads.row (i := 1) rfl) w hw, Reads.get (Reads.row (i := 0) rfl) w hw⟩) rfl rfl (fun x14 hx14 => ?_))
      refine ExL.pures 3 rfl ?_
      refine ExL.bool (d := 99) rfl (fun hb15 => ?_) (fun hb15 => ?_)
      · replace hb15 := nd_t hb15
        refine ExL.pures 11 rfl ?_
        refine ExL.nil ?_
        refine Ex.cond_t rfl ?_
        refine Ex.regSeq (ExL.pures 1 rfl ?_)
        refine ExL.nil ?_
        refine Ex.ret ?_
        refine RetQ.mk () rfl (.tmp rfl .nil) (tB (by first | rfl | exact tot_valid hTf.tot | exact (tot_valid hTf.tot).symm | exact absurd rfl (by assumption) | exact absurd (hvt9.symm.trans (by assumption)) (by decide) | (exfalso; omega))) [] (rfl) rfl (trivial)
      · replace hb15 := nd_f hb15
        refine ExL.pures 3 rfl ?_
        refine ExL.free (fr_neq_f rfl rfl rfl (by rw [hsl9]; exact fun h => h rfl)) rfl rfl rfl ?_
        refine ExL.pures 3 rfl ?_
        refine ExL.op rfl (op_ret rfl rfl rfl (c_A2Sum (shL cv dn dn) _ _ (by omega) hsb9 (by omega)) (Reads.get (Reads.row (i := 0) rfl)) rfl rfl (fun x16 hx16 => ?_))
        refine ExL.pures 1 rfl ?_
        refine ExL.free (fr_neq_f rfl rfl rfl (by rw [hsl9, sum_all (by omega)]; exact fun h => h rfl)) rfl rfl rfl ?_
        refine ExL.pures 1 rfl ?_
        refine ExL.nil ?_
        refine Ex.cond_f rfl ?_
        refine Ex.skip ?_
        refine Ex.seq ?_
        refine Ex.regSeq (ExL.pures 1 rfl ?_)
        refine ExL.nil ?_
        refine Ex.block ?_
        refine Ex.loopK (X := Nat) (fun k => [(14, .int .i64 k)]) (fun k => []) (fun k => k ≤ dn) (fun k => dn - k) 0 [(0, _), (1, _), (5, _), (8, _), (9, _), (12, _)] [_, _] 4 [0, 3] ⟨rfl, trivial⟩ ⟨rfl, rfl, rfl, rfl, rfl, rfl, trivial⟩ (rfl) rfl (Nat.zero_le _) (fun k hI => ?_)
        have hI : k ≤ dn := hI
        refine Ex.seq ?_
        refine Ex.regSeq (ExL.pures 3 rfl ?_)
        refine ExL.lss rfl rfl rfl rfl rfl rfl (fun h17 => ?_) (fun h17 => ?_)
        · refine ExL.nil ?_
          refine Ex.cond_t rfl ?_
          refine Ex.skip ?_
          refine Ex.seq ?_
          refine Ex.block ?_
          have hkd : k < dn := by omega
          have hsh := sh_two (c := cv) (d := (dn : Int)) (n := dn) (by omega) hkd
          have hq1 := Int.ediv_nonneg hcb9.1 (show 0 ≤ (dn : Int) by omega)
          have hq2 := Int.ediv_le_self (dn : Int) hcb9.1
          refine Ex.drawSeqM rfl ?_
          refine ExD.take (i := 0) rfl (by kernel_rfl) (pureVal_ok rfl) ((List.Sublist.refl _)) rfl rfl rfl ?_
          refine ExD.take (i := 1) rfl (by kernel_rfl) (pureVal_ok rfl) ((List.Sublist.refl _)) rfl rfl rfl ?_
          refine ExD.take (i := 2) rfl (by kernel_rfl) (fr_indexAddrR (sz := 1) 0 rfl rfl rfl rfl rfl rfl (by omega)) ((List.Sublist.refl _)) rfl rfl rfl ?_
          refine ExD.take (i := 3) rfl (by kernel_rfl) (fr_load rfl rfl rfl rfl (by first | exact cellN (Reads.row (i := 0) rfl) (eI_len .i64) 0 0 rfl (by omega) rfl | exact cellF (Reads.row (i := 0) rfl) (eI_len .i64) 0 0 rfl (by omega) rfl)) ((List.Sublist.refl _)) rfl rfl rfl ?_
          refine ExD.take (i := 4) rfl (by kernel_rfl) (pureVal_ok rfl) ((List.Sublist.refl _)) rfl rfl rfl ?_
          refine ExD.take (i := 5) rfl (by kernel_rfl) (pureVal_ok rfl) ((List.Sublist.refl _)) rfl rfl rfl ?_
          refine ExD.take (i := 6) rfl (by kernel_rfl) (by first | exact fr_quo64 rfl rfl rfl (by omega) | exact fr_quo rfl rfl rfl (by omega)) ((List.Sublist.refl _)) rfl rfl rfl ?_
          refine ExD.cmp_lss (i := 7) rfl (by kernel_rfl) rfl rfl rfl ((List.Sublist.refl _)) rfl rfl rfl (fun h18 => ?_) (fun h18 => ?_)
          · refine ExD.take (i := 8) rfl (by kernel_rfl) (pureVal_ok rfl) ((List.Sublist.refl _)) rfl rfl rfl ?_
            refine ExD.pass (i := 9) rfl (by kernel_rfl) ((List.Sublist.refl _)) rfl rfl rfl ?_
            refine ExD.pass (i := 10) rfl (by kernel_rfl) ((List.Sublist.refl _)) rfl rfl rfl ?_
            refine ExD.pass (i := 11) rfl (by kernel_rfl) ((List.Sublist.refl _)) rfl rfl rfl ?_
            refine ExD.pass (i := 12) rfl (by kernel_rfl) ((List.Sublist.refl _)) rfl rfl rfl ?_
            refine ExD.pass (i := 13) rfl (by kernel_rfl) ((List.Sublist.refl _)) rfl rfl rfl ?_
            refine ExD.pass (i := 14) rfl (by kernel_rfl) ((List.Sublist.refl _)) rfl rfl rfl ?_
            refine ExD.pass (i := 15) rfl (by kernel_rfl) ((List.Sublist.refl _)) rfl rfl rfl ?_
            refine ExD.pass (i := 16) rfl (by kernel_rfl) ((List.Sublist.refl _)) rfl rfl rfl ?_
            refine ExD.pass (i := 17) rfl (by kernel_rfl) ((List.Sublist.refl _)) rfl rfl rfl ?_
            refine ExD.take (i := 18) rfl (by kernel_rfl) (pureVal_ok rfl) ((List.Sublist.refl _)) rfl rfl rfl ?_
            refine ExD.done (by kernel_rfl) ?_
            refine Ex.cond_t rfl ?_
            refine Ex.regSeq (ExL.pures 1 rfl ?_)
            refine ExL.nil ?_
            refine Ex.ret ?_
            refine RetQ.mk () rfl (.tmp rfl .nil) (tB (by first | rfl | exact tot_valid hTf.tot | exact (tot_valid hTf.tot).symm | exact absurd rfl (by assumption) | exact absurd (hvt9.symm.trans (by assumption)) (by decide) | (exfalso; omega))) [] (rfl) rfl (trivial)
          · refine ExD.take (i := 8) rfl (by kernel_rfl) (pureVal_ok rfl) ((List.Sublist.refl _)) rfl rfl rfl ?_
            refine ExD.take (i := 9) rfl (by kernel_rfl) (pureVal_ok rfl) ((List.Sublist.refl _)) rfl rfl rfl ?_
            refine ExD.take (i := 10) rfl (by kernel_rfl) (pureVal_ok rfl) ((List.Sublist.refl _)) rfl rfl rfl ?_
            refine ExD.take (i := 11) rfl (by kernel_rfl) (fr_indexAddrR (sz := 1) 0 rfl rfl rfl rfl rfl rfl (by omega)) ((List.Sublist.refl _)) rfl rfl rfl ?_
            refine ExD.take (i := 12) rfl (by kernel_rfl) (fr_load rfl rfl rfl rfl (by first | exact cellN (Reads.row (i := 0) rfl) (eI_len .i64) 0 0 rfl (by omega) rfl | exact cellF (Reads.row (i := 0) rfl) (eI_len .i64) 0 0 rfl (by omega) rfl)) ((List.Sublist.refl _)) rfl rfl rfl ?_
            refine ExD.take (i := 13) rfl (by kernel_rfl) (pureVal_ok rfl) ((List.Sublist.refl _)) rfl rfl rfl ?_
            refine ExD.take (i := 14) rfl (by kernel_rfl) (pureVal_ok rfl) ((List.Sublist.refl _)) rfl rfl rfl ?_
            refine ExD.take (i := 15) rfl (by kernel_rfl) (by first | exact fr_quo64 rfl rfl rfl (by omega) | exact fr_quo rfl rfl rfl (by omega)) ((List.Sublist.refl _)) rfl rfl rfl ?_
            refine ExD.take (i := 16) rfl (by kernel_rfl) (by first | exact fr_add64 rfl rfl rfl (by omega) | exact fr_add rfl rfl rfl) ((List.Sublist.refl _)) rfl rfl rfl ?_
            refine ExD.cmp_gtr (i := 17) rfl (by kernel_rfl) rfl rfl rfl ((List.Sublist.refl _)) rfl rfl rfl (fun h19 => ?_) (fun h19 => ?_)
            · refine ExD.take (i := 18) rfl (by kernel_rfl) (pureVal_ok rfl) ((List.Sublist.refl _)) rfl rfl rfl ?_
              refine ExD.done (by kernel_rfl) ?_
              refine Ex.cond_t rfl ?_
              refine Ex.regSeq (ExL.pures 1 rfl ?_)
              refine ExL.nil ?_
              refine Ex.ret ?_
              refine RetQ.mk () rfl (.tmp rfl .nil) (tB (by first | rfl | exact tot_valid hTf.tot | exact (tot_valid hTf.tot).symm | exact absurd rfl (by assumption) | exact absurd (hvt9.symm.trans (by assumption)) (by decide) | (exfalso; omega))) [] (rfl) rfl (trivial)
            · refine ExD.take (i := 18) rfl (by kernel_rfl) (pureVal_ok rfl) ((List.Sublist.refl _)) rfl rfl rfl ?_
              refine ExD.done (by kernel_rfl) ?_
              refine Ex.cond_f rfl ?_
              refine Ex.skip ?_
              refine Ex.region (ExL.pures 1 rfl ?_)
              refine ExL.free (by first | exact fr_add64 rfl rfl rfl (by omega) | exact fr_add rfl rfl rfl) rfl rfl rfl ?_
              refine ExL.pures 1 rfl ?_
              refine ExL.nil ?_
              refine Hand.mk (k + 1) 2 [0, 1] ⟨rfl, trivial⟩ ⟨rfl, rfl, rfl, rfl, rfl, rfl, trivial⟩ (rfl) rfl (by omega) (by omega)
        · refine ExL.nil ?_
          refine Ex.cond_f rfl ?_
          refine Ex.exit ?_
          refine Ex.regSeq (ExL.pures 1 rfl ?_)
          refine ExL.op rfl (op_ret rfl rfl rfl (c_iCounts x3.2 _ _ (by omega) (by assumption) (by omega)) (Reads.get (Reads.row (i := 1) rfl)) rfl rfl (fun x20 hx20 => ?_))
          refine ExL.pures 5 rfl ?_
          refine ExL.nil ?_
          refine Ex.regSeq (ExL.pures 1 rfl ?_)
          refine ExL.op rfl (op_ret rfl rfl rfl (c_sCounts x3.2 _ _ (by omega) (by assumption) (by omega)) (Reads.get (Reads.row (i := 2) rfl)) rfl rfl (fun x21 hx21 => ?_))
          refine ExL.pures 5 rfl ?_
          refine ExL.nil ?_
          refine Ex.seq ?_
          refine Ex.regSeq (ExL.pures 2 rfl ?_)
          refine ExL.free (fr_neq_f rfl rfl rfl (fun h => h rfl)) rfl rfl rfl ?_
          refine ExL.pures 3 rfl ?_
          refine ExL.op rfl (op_ret rfl rfl rfl (c_A2Same ((cbV x3.2).1) (x20.1) (x20.2) (by omega) ((cbV x3.2).1) (x21.1) (x21.2) (by omega)) (fun w hw => ⟨Reads.get (Reads.row (i := 1) rfl) w hw, Reads.get (Reads.row (i := 0) rfl) w hw⟩) rfl rfl (fun x22 hx22 => ?_))
          refine ExL.pures 2 rfl ?_
          refine ExL.nil ?_
          refine Ex.cond rfl (fun hb23 => ?_) (fun hb23 => ?_)
          · replace hb23 := nd_t hb23
            refine Ex.regSeq (ExL.pures 1 rfl ?_)
            refine ExL.nil ?_
            refine Ex.ret ?_
            refine RetQ.mk () rfl (.tmp rfl .nil) (tB (by first | rfl | exact tot_valid hTf.tot | exact (tot_valid hTf.tot).symm | exact absurd rfl (by assumption) | exact absurd (hvt9.symm.trans (by assumption)) (by decide) | (exfalso; omega))) [] (rfl) rfl (trivial)
          · replace hb23 := nd_f hb23
            refine Ex.skip ?_
            refine Ex.regSeq (ExL.pures 3 rfl ?_)
            refine ExL.nil ?_
            refine Ex.seq ?_
            refine Ex.regSeq (ExL.pures 1 rfl ?_)
            refine ExL.eql rfl rfl rfl rfl rfl rfl (fun h24 => ?_) (fun h24 => ?_)
            · refine ExL.nil ?_
              refine Ex.cond_t rfl ?_
              refine Ex.regSeq (ExL.pures 1 rfl ?_)
              refine ExL.free (fr_eql_t rfl rfl rfl (by rw [cb_0 (by omega)])) rfl rfl rfl ?_
              refine ExL.pures 1 rfl ?_
              refine ExL.nil ?_
              refine Ex.ret ?_
              refine RetQ.mk () rfl (.tmp rfl .nil) (tB (by first | rfl | exact tot_valid hTf.tot | exact (tot_valid hTf.tot).symm | exact absurd rfl (by assumption) | exact absurd (hvt9.symm.trans (by assumption)) (by decide) | (exfalso; omega))) [] (rfl) rfl (trivial)
            · refine ExL.nil ?_
              refine Ex.cond_f rfl ?_
              refine Ex.skip ?_
              refine Ex.seq ?_
              have hlp : 0 < x3.2.length := by omega
              obtain ⟨hc1, hc2, hc3⟩ := cb_law hTt hlp
              have hc2 : ((cbV x3.2).1.length : Int) = (x3.2.getD (x3.2.length - 1) zP).a - (x3.2.getD 0 zP).a := hc2
              have hfd1 := hTt.day 0 hlp
              have hfd2 := hTt.day (x3.2.length - 1) (by omega)
              have hfc1 := hTt.cnt 0 hlp
              have hfc2 := hTt.cnt (x3.2.length - 1) (by omega)
              refine Ex.drawSeqM rfl ?_
              refine ExD.take (i := 0) rfl (by kernel_rfl) (pureVal_ok rfl) ((List.Sublist.refl _)) rfl rfl rfl ?_
              refine ExD.cmp_neq (i := 1) rfl (by kernel_rfl) rfl rfl rfl ((List.Sublist.refl _)) rfl rfl rfl (fun h25 => ?_) (fun h25 => ?_)
              · refine ExD.take (i := 2) rfl (by kernel_rfl) (pureVal_ok rfl) ((List.Sublist.refl _)) rfl rfl rfl ?_
                refine ExD.pass (i := 3) rfl (by kernel_rfl) ((List.Sublist.refl _)) rfl rfl rfl ?_
                refine ExD.pass (i := 4) rfl (by kernel_rfl) ((List.Sublist.refl _)) rfl rfl rfl ?_
                refine ExD.pass (i := 5) rfl (by kernel_rfl) ((List.Sublist.refl _)) rfl rfl rfl ?_
                refine ExD.pass (i := 6) rfl (by kernel_rfl) ((List.Sublist.refl _)) rfl rfl rfl ?_
                refine ExD.pass (i := 7) rfl (by kernel_rfl) ((List.Sublist.refl _)) rfl rfl rfl ?_
                refine ExD.pass (i := 8) rfl (by kernel_rfl) ((List.Sublist.refl _)) rfl rfl rfl ?_
                refine ExD.pass (i := 9) rfl (by kernel_rfl) ((List.Sublist.refl _)) rfl rfl rfl ?_
                refine ExD.pass (i := 10) rfl (by kernel_rfl) ((List.Sublist.refl _)) rfl rfl rfl ?_
                refine ExD.pass (i := 11) rfl (by kernel_rfl) ((List.Sublist.refl _)) rfl rfl rfl ?_
                refine ExD.pass (i := 12) rfl (by kernel_rfl) ((List.Sublist.refl _)) rfl rfl rfl ?_
                refine ExD.pass (i := 13) rfl (by kernel_rfl) ((List.Sublist.refl _)) rfl rfl rfl ?_
                refine ExD.pass (i := 14) rfl (by kernel_rfl) ((List.Sublist.refl _)) rfl rfl rfl ?_
                refine ExD.pass (i := 15) rfl (by kernel_rfl) ((List.Sublist.refl _)) rfl rfl rfl ?_
                refine ExD.pass (i := 16) rfl (by kernel_rfl) ((List.Sublist.refl _)) rfl rfl rfl ?_
                refine ExD.take (i := 17) rfl (by kernel_rfl) (pureVal_ok rfl) ((List.Sublist.refl _)) rfl rfl rfl ?_
                refine ExD.take (i := 18) rfl (by kernel_rfl) (pureVal_ok rfl) ((List.Sublist.refl _)) rfl rfl rfl ?_
                refine ExD.pass (i := 19) rfl (by kernel_rfl) ((List.Sublist.refl _)) rfl rfl rfl ?_
                refine ExD.pass (i := 20) rfl (by kernel_rfl) ((List.Sublist.refl _)) rfl rfl rfl ?_
                refine ExD.pass (i := 21) rfl (by kernel_rfl) ((List.Sublist.refl _)) rfl rfl rfl ?_
                refine ExD.pass (i := 22) rfl (by kernel_rfl) ((List.Sublist.refl _)) rfl rfl rfl ?_
                refine ExD.pass (i := 23) rfl (by kernel_rfl) ((List.Sublist.refl _)) rfl rfl rfl ?_
                refine ExD.pass (i := 24) rfl (by kernel_rfl) ((List.Sublist.refl _)) rfl rfl rfl ?_
                refine ExD.pass (i := 25) rfl (by kernel_rfl) ((List.Sublist.refl _)) rfl rfl rfl ?_
                refine ExD.pass (i := 26) rfl (by kernel_rfl) ((List.Sublist.refl _)) rfl rfl rfl ?_
                refine ExD.pass (i := 27) rfl (by kernel_rfl) ((List.Sublist.refl _)) rfl rfl rfl ?_
                refine ExD.pass (i := 28) rfl (by kernel_rfl) ((List.Sublist.refl _)) rfl rfl rfl ?_
                refine ExD.pass (i := 29) rfl (by kernel_rfl) ((List.Sublist.refl _)) rfl rfl rfl ?_
                refine ExD.pass (i := 30) rfl (by kernel_rfl) ((List.Sublist.refl _)) rfl rfl rfl ?_
                refine ExD.pass (i := 31) rfl (by kernel_rfl) ((List.Sublist.refl _)) rfl rfl rfl ?_
                refine ExD.pass (i := 32) rfl (by kernel_rfl) ((List.Sublist.refl _)) rfl rfl rfl ?_
                refine ExD.take (i := 33) rfl (by kernel_rfl) (pureVal_ok rfl) ((List.Sublist.refl _)) rfl rfl rfl ?_
                refine ExD.done (by kernel_rfl) ?_
                refine Ex.cond_t rfl ?_
                refine Ex.regSeq (ExL.pures 1 rfl ?_)
                refine ExL.nil ?_
                refine Ex.ret ?_
                refine RetQ.mk () rfl (.tmp rfl .nil) (tB (by first | rfl | exact tot_valid hTf.tot | exact (tot_valid hTf.tot).symm | exact absurd rfl (by assumption) | exact absurd (hvt9.symm.trans (by assumption)) (by decide) | (exfalso; omega))) [] (rfl) rfl (trivial)
              · refine ExD.take (i := 2) rfl (by kernel_rfl) (pureVal_ok rfl) ((List.Sublist.refl _)) rfl rfl rfl ?_
                refine ExD.take (i := 3) rfl (by kernel_rfl) (pureVal_ok rfl) ((List.Sublist.refl _)) rfl rfl rfl ?_
                refine ExD.take (i := 5) rfl (by kernel_rfl) (pureVal_ok rfl) ((List.Sublist.refl _)) rfl rfl rfl ?_
                refine ExD.take (i := 6) rfl (by kernel_rfl) (pureVal_ok rfl) ((List.Sublist.refl _)) rfl rfl rfl ?_
                refine ExD.take (i := 7) rfl (by kernel_rfl) (by first | exact fr_sub64 rfl rfl rfl (by omega) | exact fr_sub rfl rfl rfl) ((List.Sublist.refl _)) rfl rfl rfl ?_
                refine ExD.take (i := 8) rfl (by kernel_rfl) (fr_indexAddrR (sz := 2) 3 rfl rfl rfl rfl rfl rfl (by omega)) ((List.Sublist.refl _)) rfl rfl rfl ?_
                refine ExD.take (i := 9) rfl (by kernel_rfl) (fr_fieldAddrR 3 rfl (by omega) rfl rfl rfl rfl rfl rfl) ((List.Sublist.refl _)) rfl rfl rfl ?_
                refine ExD.take (i := 10) rfl (by kernel_rfl) (fr_load rfl rfl rfl rfl (cellJ (i := (x3.2.length - 1)) ((x3.2.length - 1)) (Reads.row (i := 3) rfl) encP_len zP 1 rfl (by omega) (by omega) rfl)) ((List.Sublist.refl _)) rfl rfl rfl ?_
                refine ExD.take (i := 11) rfl (by kernel_rfl) (pureVal_ok rfl) ((List.Sublist.refl _)) rfl rfl rfl ?_
                refine ExD.take (i := 12) rfl (by kernel_rfl) (fr_indexAddrR (sz := 2) 3 rfl rfl rfl rfl rfl rfl (by omega)) ((List.Sublist.refl _)) rfl rfl rfl ?_
                refine ExD.take (i := 13) rfl (by kernel_rfl) (fr_fieldAddrR 3 rfl (by omega) rfl rfl rfl rfl rfl rfl) ((List.Sublist.refl _)) rfl rfl rfl ?_
                refine ExD.take (i := 14) rfl (by kernel_rfl) (fr_load rfl rfl rfl rfl (cellJ (i := 0) (0) (Reads.row (i := 3) rfl) encP_len zP 1 rfl (by omega) (by omega) rfl)) ((List.Sublist.refl _)) rfl rfl rfl ?_
                refine ExD.take (i := 15) rfl (by kernel_rfl) (by first | exact fr_sub64 rfl rfl rfl (by omega) | exact fr_sub rfl rfl rfl) ((List.Sublist.refl _)) rfl rfl rfl ?_
                refine ExD.op (i := 4) rfl (by kernel_rfl) rfl (op_ret rfl rfl rfl (c_A2Sum ((cbV x3.2).1) _ _ (by omega) hsb8 (by omega)) (Reads.get (Reads.row (i := 0) rfl)) rfl rfl (fun x26 hx26 => ⟨(List.Sublist.refl _), ?_⟩))
                refine ExD.cmp_neq (i := 16) rfl (by kernel_rfl) rfl rfl rfl ((List.Sublist.refl _)) rfl rfl rfl (fun h27 => ?_) (fun h27 => ?_)
                · refine ExD.take (i := 17) rfl (by kernel_rfl) (pureVal_ok rfl) ((List.Sublist.refl _)) rfl rfl rfl ?_
                  refine ExD.take (i := 18) rfl (by kernel_rfl) (pureVal_ok rfl) ((List.Sublist.refl _)) rfl rfl rfl ?_
                  refine ExD.pass (i := 19) rfl (by kernel_rfl) ((List.Sublist.refl _)) rfl rfl rfl ?_
                  refine ExD.pass (i := 20) rfl (by kernel_rfl) ((List.Sublist.refl _)) rfl rfl rfl ?_
                  refine ExD.pass (i := 21) rfl (by kernel_rfl) ((List.Sublist.refl _)) rfl rfl rfl ?_
                  refine ExD.pass (i := 22) rfl (by kernel_rfl) ((List.Sublist.refl _)) rfl rfl rfl ?_
                  refine ExD.pass (i := 23) rfl (by kernel_rfl) ((List.Sublist.refl _)) rfl rfl rfl ?_
                  refine ExD.pass (i := 24) rfl (by kernel_rfl) ((List.Sublist.refl _)) rfl rfl rfl ?_
                  refine ExD.pass (i := 25) rfl (by kernel_rfl) ((List.Sublist.refl _)) rfl rfl rfl ?_
                  refine ExD.pass (i := 26) rfl (by kernel_rfl) ((List.Sublist.refl _)) rfl rfl rfl ?_
                  refine ExD.pass (i := 27) rfl (by kernel_rfl) ((List.Sublist.refl _)) rfl rfl rfl ?_
                  refine ExD.pass (i := 28) rfl (by kernel_rfl) ((List.Sublist.refl _)) rfl rfl rfl ?_
                  refine ExD.pass (i := 29) rfl (by kernel_rfl) ((List.Sublist.refl _)) rfl rfl rfl ?_
                  refine ExD.pass (i := 30) rfl (by kernel_rfl) ((List.Sublist.refl _)) rfl rfl rfl ?_
                  refine ExD.pass (i := 31) rfl (by kernel_rfl) ((List.Sublist.refl _)) rfl rfl rfl ?_
                  refine ExD.pass (i := 32) rfl (by kernel_rfl) ((List.Sublist.refl _)) rfl rfl rfl ?_
                  refine ExD.take (i := 33) rfl (by kernel_rfl) (pureVal_ok rfl) ((List.Sublist.refl _)) rfl rfl rfl ?_
                  refine ExD.done (by kernel_rfl) ?_
                  refine Ex.cond_t rfl ?_
                  refine Ex.regSeq (ExL.pures 1 rfl ?_)
                  refine ExL.nil ?_
                  refine Ex.ret ?_
                  refine RetQ.mk () rfl (.tmp rfl .nil) (tB (by first | rfl | exact tot_valid hTf.tot | exact (tot_valid hTf.tot).symm | exact absurd rfl (by assumption) | exact absurd (hvt9.symm.trans (by assumption)) (by decide) | (exfalso; omega))) [] (rfl) rfl (trivial)
                · refine ExD.take (i := 17) rfl (by kernel_rfl) (pureVal_ok rfl) ((List.Sublist.refl _)) rfl rfl rfl ?_
                  refine ExD.take (i := 18) rfl (by kernel_rfl) (pureVal_ok rfl) ((List.Sublist.refl _)) rfl rfl rfl ?_
                  refine ExD.take (i := 19) rfl (by kernel_rfl) (pureVal_ok rfl) ((List.Sublist.refl _)) rfl rfl rfl ?_
                  refine ExD.take (i := 20) rfl (by kernel_rfl) (pureVal_ok rfl) ((List.Sublist.refl _)) rfl rfl rfl ?_
                  refine ExD.take (i := 21) rfl (by kernel_rfl) (pureVal_ok rfl) ((List.Sublist.refl _)) rfl rfl rfl ?_
                  refine ExD.take (i := 22) rfl (by kernel_rfl) (pureVal_ok rfl) ((List.Sublist.refl _)) rfl rfl rfl ?_
                  refine ExD.take (i := 23) rfl (by kernel_rfl) (by first | exact fr_sub64 rfl rfl rfl (by omega) | exact fr_sub rfl rfl rfl) ((List.Sublist.refl _)) rfl rfl rfl ?_
                  refine ExD.take (i := 24) rfl (by kernel_rfl) (fr_indexAddrR (sz := 2) 3 rfl rfl rfl rfl rfl rfl (by omega)) ((List.Sublist.refl _)) rfl rfl rfl ?_
                  refine ExD.take (i := 25) rfl (by kernel_rfl) (fr_fieldAddrR 3 rfl (by omega) rfl rfl rfl rfl rfl rfl) ((List.Sublist.refl _)) rfl rfl rfl ?_
                  refine ExD.take (i := 26) rfl (by kernel_rfl) (fr_load rfl rfl rfl rfl (cellJ (i := (x3.2.length - 1)) ((x3.2.length - 1)) (Reads.row (i := 3) rfl) encP_len zP 0 rfl (by omega) (by omega) rfl)) ((List.Sublist.refl _)) rfl rfl rfl ?_
                  refine ExD.take (i := 27) rfl (by kernel_rfl) (pureVal_ok rfl) ((List.Sublist.refl _)) rfl rfl rfl ?_
                  refine ExD.take (i := 28) rfl (by kernel_rfl) (fr_indexAddrR (sz := 2) 3 rfl rfl rfl rfl rfl rfl (by omega)) ((List.Sublist.refl _)) rfl rfl rfl ?_
                  refine ExD.take (i := 29) rfl (by kernel_rfl) (fr_fieldAddrR 3 rfl (by omega) rfl rfl rfl rfl rfl rfl) ((List.Sublist.refl _)) rfl rfl rfl ?_
                  refine ExD.take (i := 30) rfl (by kernel_rfl) (fr_load rfl rfl rfl rfl (cellJ (i := 0) (0) (Reads.row (i := 3) rfl) encP_len zP 0 rfl (by omega) (by omega) rfl)) ((List.Sublist.refl _)) rfl rfl rfl ?_
                  refine ExD.take (i := 31) rfl (by kernel_rfl) (by first | exact fr_sub64 rfl rfl rfl (by omega) | exact fr_sub rfl rfl rfl) ((List.Sublist.refl _)) rfl rfl rfl ?_
                  refine ExD.cmp_neq (i := 32) rfl (by kernel_rfl) rfl rfl rfl ((List.Sublist.refl _)) rfl rfl rfl (fun h28 => ?_) (fun h28 => ?_)
                  · refine ExD.take (i := 33) rfl (by kernel_rfl) (pureVal_ok rfl) ((List.Sublist.refl _)) rfl rfl rfl ?_
                    refine ExD.done (by kernel_rfl) ?_
                    refine Ex.cond_t rfl ?_
                    refine Ex.regSeq (ExL.pures 1 rfl ?_)
                    refine ExL.nil ?_
                    refine Ex.ret ?_
                    refine RetQ.mk () rfl (.tmp rfl .nil) (tB (by first | rfl | exact tot_valid hTf.tot | exact (tot_valid hTf.tot).symm | exact absurd rfl (by assumption) | exact absurd (hvt9.symm.trans (by assumption)) (by decide) | (exfalso; omega))) [] (rfl) rfl (trivial)
                  · refine ExD.take (i := 33) rfl (by kernel_rfl) (pureVal_ok rfl) ((List.Sublist.refl _)) rfl rfl rfl ?_
                    refine ExD.done (by kernel_rfl) ?_
                    refine Ex.cond_f rfl ?_
                    refine Ex.skip ?_
                    refine Ex.seq ?_
                    refine Ex.regSeq (ExL.pures 1 rfl ?_)
                    refine ExL.nil ?_
                    refine Ex.block ?_
                    refine Ex.loopK (X := Nat) (fun k => [(20, .int .i64 k)]) (fun k => []) (fun k => k ≤ x3.2.length) (fun k => x3.2.length - k) 0 [(0, _), (1, _), (5, _), (19, _)] [_] 4 [3] ⟨rfl, trivial⟩ ⟨rfl, rfl, rfl, rfl, trivial⟩ (rfl) rfl (Nat.zero_le _) (fun k hI => ?_)
                    have hI : k ≤ x3.2.length := hI
                    refine Ex.seq ?_
                    refine Ex.regSeq (ExL.pures 2 rfl ?_)
                    refine ExL.lss rfl rfl rfl rfl rfl rfl (fun h29 => ?_) (fun h29 => ?_)
                    · refine ExL.nil ?_
                      refine Ex.cond_t rfl ?_
                      refine Ex.skip ?_
                      refine Ex.seq ?_
                      refine Ex.block ?_
                      have hkl : k < x3.2.length := by omega
                      obtain ⟨hcd1, hcd2⟩ := con_day hTt hkl
                      refine Ex.regSeq (ExL.pures 3 rfl ?_)
                      refine ExL.free (fr_indexAddrR (sz := 2) 0 rfl rfl rfl rfl rfl rfl (by omega)) rfl rfl rfl ?_
                      refine ExL.free (fr_fieldAddrR 0 rfl (by omega) rfl rfl rfl rfl rfl rfl) rfl rfl rfl ?_
                      refine ExL.free (fr_load rfl rfl rfl rfl (by first | exact cellN (Reads.row (i := 0) rfl) encP_len zP 0 rfl (by omega) rfl | exact cellF (Reads.row (i := 0) rfl) encP_len zP 0 rfl (by omega) rfl)) rfl rfl rfl ?_
                      refine ExL.op rfl (op_ret rfl rfl rfl (c_iCountOn x3.2 (by assumption) _ _ (by omega) (x3.2.getD k zP).a) (Reads.get (Reads.row (i := 0) rfl)) rfl rfl (fun x30 hx30 => ?_))
                      refine ExL.pures 5 rfl ?_
                      refine ExL.nil ?_
                      refine Ex.regSeq (ExL.pures 1 rfl ?_)
                      refine ExL.free (fr_neq_f rfl rfl rfl (by rw [hcd2]; exact fun h => h rfl)) rfl rfl rfl ?_
                      refine ExL.pures 4 rfl ?_
                      refine ExL.free (fr_indexAddrR (sz := 2) 0 rfl rfl rfl rfl rfl rfl (by omega)) rfl rfl rfl ?_
                      refine ExL.free (fr_fieldAddrR 0 rfl (by omega) rfl rfl rfl rfl rfl rfl) rfl rfl rfl ?_
                      refine ExL.free (fr_load rfl rfl rfl rfl (by first | exact cellN (Reads.row (i := 0) rfl) encP_len zP 1 rfl (by omega) rfl | exact cellF (Reads.row (i := 0) rfl) encP_len zP 1 rfl (by omega) rfl)) rfl rfl rfl ?_
                      refine ExL.free (fr_neq_f rfl rfl rfl (by rw [hcd1]; exact fun h => h rfl)) rfl rfl rfl ?_
                      refine ExL.pures 1 rfl ?_
                      refine ExL.nil ?_
                      refine Ex.cond_f rfl ?_
                      refine Ex.skip ?_
                      refine Ex.region (ExL.pures 1 rfl ?_)
                      refine ExL.free (by first | exact fr_add64 rfl rfl rfl (by omega) | exact fr_add rfl rfl rfl) rfl rfl rfl ?_
                      refine ExL.pures 1 rfl ?_
                      refine ExL.nil ?_
                      refine Hand.mk (k + 1) 1 [0] ⟨rfl, trivial⟩ ⟨rfl, rfl, rfl, rfl, trivial⟩ (rfl) rfl (by omega) (by omega)
                    · refine ExL.nil ?_
                      refine Ex.cond_f rfl ?_
                      refine Ex.exit ?_
                      refine Ex.regSeq (ExL.pures 0 rfl ?_)
                      refine ExL.op rfl (op_buildSlice (sz := 2) rfl rfl rfl rfl rfl rfl rfl rfl (by decide) rfl rfl rfl (fun r31 => ?_))
                      refine ExL.pures 1 rfl ?_
                      refine ExL.nil ?_
                      refine Ex.regSeq (ExL.pures 0 rfl ?_)
                      refine ExL.op rfl (op_buildSlice (sz := 2) rfl rfl rfl rfl rfl rfl rfl rfl (by decide) rfl rfl rfl (fun r32 => ?_))
                      refine ExL.pures 1 rfl ?_
                      refine ExL.nil ?_
                      refine Ex.seq ?_
                      refine Ex.regSeq (ExL.pures 1 rfl ?_)
                      refine ExL.nil ?_
                      refine Ex.block ?_
                      refine Ex.loopB (fun k A c A2 c2 => [(23, .slice A (pkL (ppT t) x3.2 k).length c), (24, .slice A2 (pkL (npT t) x3.2 k).length c2), (25, .int .i64 k)]) (fun k A c A2 c2 => [.row (.slice A (pkL (ppT t) x3.2 k).length c) 39 2 (pkL (ppT t) x3.2 k).length ((pkL (ppT t) x3.2 k).flatMap encP), .row (.slice A2 (pkL (npT t) x3.2 k).length c2) 39 2 (pkL (npT t) x3.2 k).length ((pkL (npT t) x3.2 k).flatMap encP)]) (fun k => k ≤ x3.2.length) (fun k => x3.2.length - k) 0 ((some ⟨r31, 0, none⟩)) (0) ((some ⟨r32, 0, none⟩)) (0) [(0, _), (1, _), (5, _), (19, _)] [_] 3 [1, 0, 2] ⟨rfl, rfl, rfl, trivial⟩ ⟨rfl, rfl, rfl, rfl, trivial⟩ (rfl) rfl (Nat.zero_le _) (fun k A c A2 c2 hI => ?_)
                      have hI : k ≤ x3.2.length := hI
                      refine Ex.seq ?_
                      refine Ex.regSeq (ExL.pures 2 rfl ?_)
                      refine ExL.lss rfl rfl rfl rfl rfl rfl (fun h33 => ?_) (fun h33 => ?_)
                      · refine ExL.nil ?_
                        refine Ex.cond_t rfl ?_
                        refine Ex.skip ?_
                        refine Ex.seq ?_
                        refine Ex.block ?_
                        have hkl : k < x3.2.length := by omega
                        have hpl1 := pkL_len (ppT t) x3.2 k
                        have hpl2 := pkL_len (npT t) x3.2 k
                        refine Ex.regSeq (ExL.pures 2 rfl ?_)
                        refine ExL.free (by first | exact fr_add64 rfl rfl rfl (by omega) | exact fr_add rfl rfl rfl) rfl rfl rfl ?_
                        refine ExL.op rfl (op_ret rfl rfl rfl (c_a2At t hut _ _ (by omega) (2 + (k : Int)) (by omega) 2 (by omega)) (Reads.get (Reads.old ht)) rfl rfl (fun x34 hx34 => ?_))
                        have hbax34 := aAt_bd (t := t) (i := (2 + ↑k)) (n := 2) (by assumption) (by omega)
                        refine ExL.eql rfl rfl rfl rfl rfl rfl (fun h35 => ?_) (fun h35 => ?_)
                        · refine ExL.nil ?_
                          refine Ex.cond_t rfl ?_
                          refine Ex.region (ExL.pures 3 rfl ?_)
                          refine ExL.free (fr_indexAddrR (sz := 2) 2 rfl rfl rfl rfl rfl rfl (by omega)) rfl rfl rfl ?_
                          refine ExL.free (fr_loadN rfl rfl rfl rfl rfl (by first | exact segN (Reads.row (i := 2) rfl) encP_len rfl zP (by omega) | exact segF (Reads.row (i := 2) rfl) encP_len rfl zP (by omega))) rfl rfl rfl ?_
                          refine ExL.op rfl (op_buildSlice (sz := 2) rfl rfl rfl rfl rfl rfl rfl rfl (by decide) rfl rfl rfl (fun r36 => ?_))
                          refine ExL.op rfl (op_append (sz := 2) (bytes := 16) (i := 1) rfl rfl rfl rfl (Reads.row (i := 0) rfl) rfl (fun e => nomatch e) rfl rfl rfl rfl (by constructor <;> first | omega | (unfold maxLen; omega)) rfl rfl (fun A37 cA37 => ?_))
                          refine ExL.pures 1 rfl ?_
                          refine ExL.nil ?_
                          refine Ex.region (ExL.pures 1 rfl ?_)
                          refine ExL.free (by first | exact fr_add64 rfl rfl rfl (by omega) | exact fr_add rfl rfl rfl) rfl rfl rfl ?_
                          refine ExL.pures 1 rfl ?_
                          refine ExL.nil ?_
                          refine HandB.of (k + 1) (A37) (cA37) (A2) (c2) 4 [1, 2, 3] ⟨(by first | (rw [pkL_t hkl (pp_t (by assumption)), List.length_append]; rfl) | (rw [pkL_f hkl (pp_f (by assumption))]; first | done | rfl)), (by first | (rw [pkL_f hkl (np_f (by assumption))]; first | done | rfl) | (rw [pkL_t hkl (np_t (by assumption)), List.length_append]; rfl)), rfl, trivial⟩ ⟨rfl, rfl, rfl, rfl, trivial⟩ (by first | (rw [pkL_t hkl (pp_t (by assumption)), pkL_f hkl (np_f (by assumption)), List.length_append, List.flatMap_append]; rfl) | (rw [pkL_f hkl (pp_f (by assumption)), pkL_t hkl (np_t (by assumption)), List.length_append, List.flatMap_append]; rfl)) rfl (by omega) (by omega)
                        · refine ExL.nil ?_
                          refine Ex.cond_f rfl ?_
                          refine Ex.region (ExL.pures 3 rfl ?_)
                          refine ExL.free (fr_indexAddrR (sz := 2) 2 rfl rfl rfl rfl rfl rfl (by omega)) rfl rfl rfl ?_
                          refine ExL.free (fr_loadN rfl rfl rfl rfl rfl (by first | exact segN (Reads.row (i := 2) rfl) encP_len rfl zP (by omega) | exact segF (Reads.row (i := 2) rfl) encP_len rfl zP (by omega))) rfl rfl rfl ?_
                          refine ExL.op rfl (op_buildSlice (sz := 2) rfl rfl rfl rfl rfl rfl rfl rfl (by decide) rfl rfl rfl (fun r39 => ?_))
                          refine ExL.op rfl (op_append (sz := 2) (bytes := 16) (i := 2) rfl rfl rfl rfl (Reads.row (i := 0) rfl) rfl (fun e => nomatch e) rfl rfl rfl rfl (by constructor <;> first | omega | (unfold maxLen; omega)) rfl rfl (fun A40 cA40 => ?_))
                          refine ExL.pures 1 rfl ?_
                          refine ExL.nil ?_
                          refine Ex.region (ExL.pures 1 rfl ?_)
                          refine ExL.free (by first | exact fr_add64 rfl rfl rfl (by omega) | exact fr_add rfl rfl rfl) rfl rfl rfl ?_
                          refine ExL.pures 1 rfl ?_
                          refine ExL.nil ?_
                          refine HandB.of (k + 1) (A) (c) (A40) (cA40) 4 [1, 2, 3] ⟨(by first | (rw [pkL_t hkl (pp_t (by assumption)), List.length_append]; rfl) | (rw [pkL_f hkl (pp_f (by assumption))]; first | done | rfl)), (by first | (rw [pkL_f hkl (np_f (by assumption))]; first | done | rfl) | (rw [pkL_t hkl (np_t (by assumption)), List.length_append]; rfl)), rfl, trivial⟩ ⟨rfl, rfl, rfl, rfl, trivial⟩ (by first | (rw [pkL_t hkl (pp_t (by assumption)), pkL_f hkl (np_f (by assumption)), List.length_append, List.flatMap_append]; rfl) | (rw [pkL_f hkl (pp_f (by assumption)), pkL_t hkl (np_t (by assumption)), List.length_append, List.flatMap_append]; rfl)) rfl (by omega) (by omega)
                      · refine ExL.nil ?_
                        refine Ex.cond_f rfl ?_
                        refine Ex.exit ?_
                        obtain rfl : k = x3.2.length := by omega
                        have hpl1 := pkL_len (ppT t) x3.2 x3.2.length
                        have hpl2 := pkL_len (npT t) x3.2 x3.2.length
                        refine Ex.know (row_nil (i := 0) rfl) (fun hnA => ?_)
                        refine Ex.know (row_nil (i := 1) rfl) (fun hnB => ?_)
                        refine Ex.regSeq (ExL.pures 2 rfl ?_)
                        refine ExL.op rfl (op_ret rfl rfl rfl (c_iMergeTotals (pkL (ppT t) x3.2 x3.2.length) _ _ (by omega) (pkL (npT t) x3.2 x3.2.length) _ _ (by omega) hnA hnB) (fun w hw => ⟨Reads.get (Reads.row (i := 0) rfl) w hw, Reads.get (Reads.row (i := 1) rfl) w hw⟩) rfl rfl (fun x42 hx42 => ?_))
                        refine ExL.pures 5 rfl ?_
                        refine ExL.nil ?_
                        refine Ex.seq ?_
                        obtain ⟨hmr1, hmr2⟩ := mer_law hTt t
                        rw [hmr1, hmr2]
                        refine Ex.regSeq (ExL.pures 1 rfl ?_)
                        refine ExL.free (fr_neq_f rfl rfl rfl (fun h => h rfl)) rfl rfl rfl ?_
                        refine ExL.pures 3 rfl ?_
                        refine ExL.op rfl (op_ret rfl rfl rfl (c_sSameTotals x3.2 _ _ (by omega) _ _) (fun w hw => ⟨Reads.get (Reads.row (i := 0) rfl) w hw, Reads.get (Reads.row (i := 3) rfl) w hw⟩) rfl rfl (fun x43 hx43 => ?_))
                        refine ExL.pures 2 rfl ?_
                        refine ExL.nil ?_
                        refine Ex.cond_f rfl ?_
                        refine Ex.skip ?_
                        refine Ex.regSeq (ExL.pures 1 rfl ?_)
                        refine ExL.op rfl (op_ret rfl rfl rfl (c_A2Log s _ _ (by omega) (by assumption)) (Reads.get (Reads.old hs)) rfl rfl (fun x44 hx44 => ?_))
                        obtain ⟨hgvx44, hgnx44, hglx44, hgzx44, hgox44, hgkx44⟩ := hx44
                        refine ExL.pures 4 rfl ?_
                        refine ExL.op rfl (op_alloc rfl rfl rfl rfl rfl (fun b45 => ?_))
                        refine ExL.pures 2 rfl ?_
                        refine ExL.op rfl (op_storeC (i := 0) rfl rfl rfl rfl rfl rfl rfl rfl rfl rfl ?_)
                        refine ExL.nil ?_
                        have hgS : validStack x44.1.2 = true := hgvx44
                        have hTf := tfl hgox44 ⟨hgzx44.1, by have := hgzx44.2; omega⟩
                        have htfc : (totF x44.1.2 x44.2.1.2).2 = 0 := by rw [hTf.eq]
                        have htfl := hTf.len
                        have hgz1 := hgzx44.1
                        have hgz2 := hgzx44.2
                        refine Ex.regSeq (ExL.pures 2 rfl ?_)
                        refine ExL.op rfl (op_ret rfl rfl rfl (c_iTotalsFrom x44.1.2 (by assumption) _ _ (by omega) x44.2.1.2 _ _ (by omega)) (fun w hw => ⟨Reads.get (Reads.row (i := 1) rfl) w hw, Reads.get (Reads.row (i := 2) rfl) w hw⟩) rfl rfl (fun x46 hx46 => ?_))
                        refine ExL.pures 5 rfl ?_
                        refine ExL.nil ?_
                        refine Ex.regSeq (ExL.pures 2 rfl ?_)
                        refine ExL.op rfl (op_ret rfl rfl rfl (c_sTotalsFrom x44.1.2 (by assumption) _ _ (by omega) x44.2.1.2 _ _ (by omega)) (fun w hw => ⟨Reads.get (Reads.row (i := 2) rfl) w hw, Reads.get (Reads.row (i := 3) rfl) w hw⟩) rfl rfl (fun x47 hx47 => ?_))
                        refine ExL.pures 5 rfl ?_
                        refine ExL.nil ?_
                        refine Ex.regSeq (ExL.pures 1 rfl ?_)
                        refine ExL.op rfl (op_ret rfl rfl rfl (c_SizeOf x44.1.2 (by assumption) (by assumption) _ _) (Reads.get (Reads.row (i := 3) rfl)) rfl rfl (fun x48 hx48 => ?_))
                        refine ExL.pures 5 rfl ?_
                        refine ExL.nil ?_
                        refine Ex.seq ?_
                        refine Ex.regSeq (ExL.pures 2 rfl ?_)
                        refine ExL.free (fr_neq_f rfl rfl rfl (fun h => h rfl)) rfl rfl rfl ?_
                        refine ExL.pures 2 rfl ?_
                        refine ExL.free (fr_neq_f rfl rfl rfl (by rw [htfc]; exact fun h => h rfl)) rfl rfl rfl ?_
                        refine ExL.pures 4 rfl ?_
                        refine ExL.op rfl (op_ret rfl rfl rfl (c_sSameTotals ((totF x44.1.2 x44.2.1.2).1) _ _ (by omega) _ _) (fun w hw => ⟨Reads.get (Reads.row (i := 1) rfl) w hw, Reads.get (Reads.row (i := 0) rfl) w hw⟩) rfl rfl (fun x49 hx49 => ?_))
                        refine ExL.pures 4 rfl ?_
                        refine ExL.free (fr_neq_f rfl rfl rfl (fun h => h rfl)) rfl rfl rfl ?_
                        refine ExL.pures 6 rfl ?_
                        refine ExL.free (fr_neq_f rfl rfl rfl (by omega)) rfl rfl rfl ?_
                        refine ExL.pures 1 rfl ?_
                        refine ExL.nil ?_
                        refine Ex.cond_f rfl ?_
                        refine Ex.skip ?_
                        refine Ex.seq ?_
                        refine Ex.regSeq (ExL.pures 1 rfl ?_)
                        refine ExL.nil ?_
                        refine Ex.block ?_
                        refine Ex.loopK (X := Nat) (fun k => [(37, .int .i64 k)]) (fun k => []) (fun k => k ≤ x44.2.1.2.length) (fun k => x44.2.1.2.length - k) 0 [(29, _), (33, _), (35, _)] [_, _] 9 [0, 4] ⟨rfl, trivial⟩ ⟨rfl, rfl, rfl, trivial⟩ (rfl) rfl (Nat.zero_le _) (fun k hI => ?_)
                        have hI : k ≤ x44.2.1.2.length := hI
                        refine Ex.seq ?_
                        refine Ex.regSeq (ExL.pures 3 rfl ?_)
                        refine ExL.lss rfl rfl rfl rfl rfl rfl (fun h50 => ?_) (fun h50 => ?_)
                        · refine ExL.nil ?_
                          refine Ex.cond_t rfl ?_
                          refine Ex.skip ?_
                          refine Ex.seq ?_
                          refine Ex.block ?_
                          have hkl : k < x44.2.1.2.length := by omega
                          have htd := hTf.day k hkl
                          have htm := hTf.md k hkl
                          have htc := hTf.tot.cnt k (by omega)
                          refine Ex.drawSeqM rfl ?_
                          refine ExD.take (i := 0) rfl (by kernel_rfl) (pureVal_ok rfl) ((List.Sublist.refl _)) rfl rfl rfl ?_
                          refine ExD.take (i := 1) rfl (by kernel_rfl) (pureVal_ok rfl) ((List.Sublist.refl _)) rfl rfl rfl ?_
                          refine ExD.take (i := 2) rfl (by kernel_rfl) (fr_indexAddrR (sz := 2) 0 rfl rfl rfl rfl rfl rfl (by omega)) ((List.Sublist.refl _)) rfl rfl rfl ?_
                          refine ExD.take (i := 3) rfl (by kernel_rfl) (fr_fieldAddrR 0 rfl (by omega) rfl rfl rfl rfl rfl rfl) ((List.Sublist.refl _)) rfl rfl rfl ?_
                          refine ExD.take (i := 4) rfl (by kernel_rfl) (fr_load rfl rfl rfl rfl (by first | exact cellN (Reads.row (i := 0) rfl) encP_len zP 0 rfl (by omega) rfl | exact cellF (Reads.row (i := 0) rfl) encP_len zP 0 rfl (by omega) rfl)) ((List.Sublist.refl _)) rfl rfl rfl ?_
                          refine ExD.take (i := 5) rfl (by kernel_rfl) (pureVal_ok rfl) ((List.Sublist.refl _)) rfl rfl rfl ?_
                          refine ExD.take (i := 6) rfl (by kernel_rfl) (pureVal_ok rfl) ((List.Sublist.refl _)) rfl rfl rfl ?_
                          refine ExD.take (i := 7) rfl (by kernel_rfl) (fr_indexAddrR (sz := 2) 1 rfl rfl rfl rfl rfl rfl (by omega)) ((List.Sublist.refl _)) rfl rfl rfl ?_
                          refine ExD.take (i := 8) rfl (by kernel_rfl) (fr_fieldAddrR 1 rfl (by omega) rfl rfl rfl rfl rfl rfl) ((List.Sublist.refl _)) rfl rfl rfl ?_
                          refine ExD.take (i := 9) rfl (by kernel_rfl) (fr_load rfl rfl rfl rfl (by first | exact cellN (Reads.row (i := 1) rfl) encP_len zP 0 rfl (by omega) rfl | exact cellF (Reads.row (i := 1) rfl) encP_len zP 0 rfl (by omega) rfl)) ((List.Sublist.refl _)) rfl rfl rfl ?_
                          refine ExD.cmp_neq (i := 10) rfl (by kernel_rfl) rfl rfl rfl ((List.Sublist.refl _)) rfl rfl rfl (fun h51 => ?_) (fun h51 => ?_)
                          · refine ExD.take (i := 11) rfl (by kernel_rfl) (pureVal_ok rfl) ((List.Sublist.refl _)) rfl rfl rfl ?_
                            refine ExD.pass (i := 12) rfl (by kernel_rfl) ((List.Sublist.refl _)) rfl rfl rfl ?_
                            refine ExD.pass (i := 13) rfl (by kernel_rfl) ((List.Sublist.refl _)) rfl rfl rfl ?_
                            refine ExD.pass (i := 14) rfl (by kernel_rfl) ((List.Sublist.refl _)) rfl rfl rfl ?_
                            refine ExD.pass (i := 15) rfl (by kernel_rfl) ((List.Sublist.refl _)) rfl rfl rfl ?_
                            refine ExD.pass (i := 16) rfl (by kernel_rfl) ((List.Sublist.refl _)) rfl rfl rfl ?_
                            refine ExD.pass (i := 17) rfl (by kernel_rfl) ((List.Sublist.refl _)) rfl rfl rfl ?_
                            refine ExD.pass (i := 18) rfl (by kernel_rfl) ((List.Sublist.refl _)) rfl rfl rfl ?_
                            refine ExD.pass (i := 19) rfl (by kernel_rfl) ((List.Sublist.refl _)) rfl rfl rfl ?_
                            refine ExD.pass (i := 20) rfl (by kernel_rfl) ((List.Sublist.refl _)) rfl rfl rfl ?_
                            refine ExD.pass (i := 21) rfl (by kernel_rfl) ((List.Sublist.refl _)) rfl rfl rfl ?_
                            refine ExD.pass (i := 22) rfl (by kernel_rfl) ((List.Sublist.refl _)) rfl rfl rfl ?_
                            refine ExD.pass (i := 23) rfl (by kernel_rfl) ((List.Sublist.refl _)) rfl rfl rfl ?_
                            refine ExD.pass (i := 24) rfl (by kernel_rfl) ((List.Sublist.refl _)) rfl rfl rfl ?_
                            refine ExD.take (i := 25) rfl (by kernel_rfl) (pureVal_ok rfl) ((List.Sublist.refl _)) rfl rfl rfl ?_
                            refine ExD.done (by kernel_rfl) ?_
                            refine Ex.cond_t rfl ?_
                            refine Ex.regSeq (ExL.pures 1 rfl ?_)
                            refine ExL.nil ?_
                            refine Ex.ret ?_
                            refine RetQ.mk () rfl (.tmp rfl .nil) (tB (by first | rfl | exact tot_valid hTf.tot | exact (tot_valid hTf.tot).symm | exact absurd rfl (by assumption) | exact absurd (hvt9.symm.trans (by assumption)) (by decide) | (exfalso; omega))) [] (rfl) rfl (trivial)
                          · refine ExD.take (i := 11) rfl (by kernel_rfl) (pureVal_ok rfl) ((List.Sublist.refl _)) rfl rfl rfl ?_
                            refine ExD.take (i := 12) rfl (by kernel_rfl) (pureVal_ok rfl) ((List.Sublist.refl _)) rfl rfl rfl ?_
                            refine ExD.take (i := 13) rfl (by kernel_rfl) (pureVal_ok rfl) ((List.Sublist.refl _)) rfl rfl rfl ?_
                            refine ExD.take (i := 14) rfl (by kernel_rfl) (fr_indexAddrR (sz := 2) 0 rfl rfl rfl rfl rfl rfl (by omega)) ((List.Sublist.refl _)) rfl rfl rfl ?_
                            refine ExD.take (i := 15) rfl (by kernel_rfl) (fr_fieldAddrR 0 rfl (by omega) rfl rfl rfl rfl rfl rfl) ((List.Sublist.refl _)) rfl rfl rfl ?_
                            refine ExD.take (i := 16) rfl (by kernel_rfl) (fr_load rfl rfl rfl rfl (by first | exact cellN (Reads.row (i := 0) rfl) encP_len zP 1 rfl (by omega) rfl | exact cellF (Reads.row (i := 0) rfl) encP_len zP 1 rfl (by omega) rfl)) ((List.Sublist.refl _)) rfl rfl rfl ?_
                            refine ExD.take (i := 17) rfl (by kernel_rfl) (pureVal_ok rfl) ((List.Sublist.refl _)) rfl rfl rfl ?_
                            refine ExD.take (i := 18) rfl (by kernel_rfl) (by first | exact fr_remP rfl rfl rfl (by omega) | exact fr_rem rfl rfl rfl (by omega)) ((List.Sublist.refl _)) rfl rfl rfl ?_
                            refine ExD.take (i := 19) rfl (by kernel_rfl) (pureVal_ok rfl) ((List.Sublist.refl _)) rfl rfl rfl ?_
                            refine ExD.take (i := 20) rfl (by kernel_rfl) (pureVal_ok rfl) ((List.Sublist.refl _)) rfl rfl rfl ?_
                            refine ExD.take (i := 21) rfl (by kernel_rfl) (fr_indexAddrR (sz := 2) 1 rfl rfl rfl rfl rfl rfl (by omega)) ((List.Sublist.refl _)) rfl rfl rfl ?_
                            refine ExD.take (i := 22) rfl (by kernel_rfl) (fr_fieldAddrR 1 rfl (by omega) rfl rfl rfl rfl rfl rfl) ((List.Sublist.refl _)) rfl rfl rfl ?_
                            refine ExD.take (i := 23) rfl (by kernel_rfl) (fr_load rfl rfl rfl rfl (by first | exact cellN (Reads.row (i := 1) rfl) encP_len zP 1 rfl (by omega) rfl | exact cellF (Reads.row (i := 1) rfl) encP_len zP 1 rfl (by omega) rfl)) ((List.Sublist.refl _)) rfl rfl rfl ?_
                            refine ExD.cmp_neq (i := 24) rfl (by kernel_rfl) rfl rfl rfl ((List.Sublist.refl _)) rfl rfl rfl (fun h52 => ?_) (fun h52 => ?_)
                            · refine ExD.take (i := 25) rfl (by kernel_rfl) (pureVal_ok rfl) ((List.Sublist.refl _)) rfl rfl rfl ?_
                              refine ExD.done (by kernel_rfl) ?_
                              refine Ex.cond_t rfl ?_
                              refine Ex.regSeq (ExL.pures 1 rfl ?_)
                              refine ExL.nil ?_
                              refine Ex.ret ?_
                              refine RetQ.mk () rfl (.tmp rfl .nil) (tB (by first | rfl | exact tot_valid hTf.tot | exact (tot_valid hTf.tot).symm | exact absurd rfl (by assumption) | exact absurd (hvt9.symm.trans (by assumption)) (by decide) | (exfalso; omega))) [] (rfl) rfl (trivial)
                            · refine ExD.take (i := 25) rfl (by kernel_rfl) (pureVal_ok rfl) ((List.Sublist.refl _)) rfl rfl rfl ?_
                              refine ExD.done (by kernel_rfl) ?_
                              refine Ex.cond_f rfl ?_
                              refine Ex.skip ?_
                              refine Ex.region (ExL.pures 1 rfl ?_)
                              refine ExL.free (by first | exact fr_add64 rfl rfl rfl (by omega) | exact fr_add rfl rfl rfl) rfl rfl rfl ?_
                              refine ExL.pures 1 rfl ?_
                              refine ExL.nil ?_
                              refine Hand.mk (k + 1) 2 [0, 1] ⟨rfl, trivial⟩ ⟨rfl, rfl, rfl, trivial⟩ (rfl) rfl (by omega) (by omega)
                        · refine ExL.nil ?_
                          refine Ex.cond_f rfl ?_
                          refine Ex.exit ?_
                          refine Ex.regSeq (ExL.pures 1 rfl ?_)
                          refine ExL.op rfl (op_ret rfl rfl rfl (c_ValidTotals ((totF x44.1.2 x44.2.1.2).1) _ _ (by omega)) (Reads.get (Reads.row (i := 0) rfl)) rfl rfl (fun x53 hx53 => ?_))
                          refine ExL.pures 1 rfl ?_
                          refine ExL.nil ?_
                          refine Ex.ret ?_
                          refine RetQ.mk () rfl (.tmp rfl .nil) (tB (by first | rfl | exact tot_valid hTf.tot | exact (tot_valid hTf.tot).symm | exact absurd rfl (by assumption) | exact absurd (hvt9.symm.trans (by assumption)) (by decide) | (exfalso; omega))) [] (rfl) rfl (trivial)
end Go.Proofs.YtniimollalcjnaaGreatDoor
