/- What these functions of the program hand back, each proved by walking its operations. -/
import Derived.Test.YthfbmkfbmmjchaaDoorProg
import Derived.Test.YthfbmkfbmmjchaaDoorFw
import Derived.Test.YthfbmkfbmmjchaaDoorF12
set_option linter.unusedVariables false
set_option linter.unusedSimpArgs false
set_option maxRecDepth 4000
namespace Go.Proofs.YthfbmkfbmmjchaaDoor
open Go Go.Sx Go.RowKit Go.W Go.Proofs
attribute [local irreducible] Ex ExL ExD Op1 Free RetQ MutQ Reads CellO SegO LoadsAs
theorem e_68 : Enters Tryd.prog 68 := Enters.of Tryd.func68 rfl
theorem copyCheck_n (b : Nat) (A : Option Addr) (n c : Nat) : Mut Tryd.prog 68 [.pointer (some ⟨b, 0, none⟩)] [.blk b [.pointer none, .slice A n c] 71] (fun base w0 F => True) (fun x : Unit => .tuple #[]) (fun x => [.blk b [.pointer (some ⟨b, 0, none⟩), .slice A n c] 71]) (fun x => True) := by
  refine Mut.of e_68 Tryd.func68 rfl Tryd.ntmps68 rfl rfl (fun base w0 F hfr => ?_)
  refine Ex.regSeq (ExL.pures 3 rfl ?_)
  refine ExL.free (fr_load rfl rfl rfl rfl (CellO.blk (i := 0) rfl rfl)) rfl rfl rfl ?_
  refine ExL.free (fr_eql_ptr_n rfl rfl rfl rfl) rfl rfl rfl ?_
  refine ExL.nil ?_
  refine Ex.cond_t rfl ?_
  refine Ex.region (ExL.pures 2 rfl ?_)
  refine ExL.free (fr_toUnsafe (i := 0) rfl rfl rfl rfl rfl rfl rfl rfl) rfl rfl rfl ?_
  refine ExL.free (fr_noEsc rfl rfl rfl rfl Tryd.func95 (by kernel_rfl) rfl (by kernel_rfl) (by kernel_rfl)) rfl rfl rfl ?_
  refine ExL.free (fr_fromUnsafe (i := 0) rfl rfl rfl rfl rfl rfl (by kernel_rfl)) rfl rfl rfl ?_
  refine ExL.pures 2 rfl ?_
  refine ExL.op rfl (op_storeC (i := 0) rfl rfl rfl rfl rfl rfl rfl rfl rfl rfl ?_)
  refine ExL.nil ?_
  refine MutQ.mk () rfl .nil (rfl) 1 [0] (rfl) rfl (trivial)
theorem copyCheck_s (b : Nat) (A : Option Addr) (n c : Nat) : Mut Tryd.prog 68 [.pointer (some ⟨b, 0, none⟩)] [.blk b [.pointer (some ⟨b, 0, none⟩), .slice A n c] 71] (fun base w0 F => True) (fun x : Unit => .tuple #[]) (fun x => [.blk b [.pointer (some ⟨b, 0, none⟩), .slice A n c] 71]) (fun x => True) := by
  refine Mut.of e_68 Tryd.func68 rfl Tryd.ntmps68 rfl rfl (fun base w0 F hfr => ?_)
  refine Ex.regSeq (ExL.pures 3 rfl ?_)
  refine ExL.free (fr_load rfl rfl rfl rfl (CellO.blk (i := 0) rfl rfl)) rfl rfl rfl ?_
  refine ExL.free (fr_eql_ptr_s rfl rfl rfl rfl) rfl rfl rfl ?_
  refine ExL.nil ?_
  refine Ex.cond_f rfl ?_
  refine Ex.regSeq (ExL.pures 3 rfl ?_)
  refine ExL.free (fr_load rfl rfl rfl rfl (CellO.blk (i := 0) rfl rfl)) rfl rfl rfl ?_
  refine ExL.pures 1 rfl ?_
  refine ExL.free (fr_neq_ptr_same rfl rfl rfl rfl rfl) rfl rfl rfl ?_
  refine ExL.nil ?_
  refine Ex.cond_f rfl ?_
  refine Ex.skip ?_
  refine MutQ.mk () rfl .nil (rfl) 1 [0] (rfl) rfl (trivial)
theorem copyCheck_j (b : Nat) (u : Bool) (A : Option Addr) (n c : Nat) : Mut Tryd.prog 68 [.pointer (some ⟨b, 0, none⟩)] [.blk b [bp b u, .slice A n c] 71] (fun _ _ _ => True) (fun _ : Unit => .tuple #[]) (fun _ => [.blk b [bp b true, .slice A n c] 71]) (fun _ => True) := by
  cases u
  · exact copyCheck_n b A n c
  · exact copyCheck_s b A n c
theorem e_33 : Enters Tryd.prog 33 := Enters.of Tryd.func33 rfl
theorem c_WriteString (b : Nat) (u : Bool) (xs : List UInt8) (A : Option Addr) (c : Nat) (l : List UInt8) (hb : xs.length + l.length ≤ 140737488355328) : Mut Tryd.prog 33 [.pointer (some ⟨b, 0, none⟩), sv l] [.blk b [bp b u, .slice A xs.length c] 71, .row (.slice A xs.length c) 5 1 xs.length (xs.flatMap eU)] (fun base w0 F => True) (fun x : Option Addr × Nat => .tuple #[.int .i64 l.length, .nilIface]) (fun x => [.blk b [bp b true, .slice x.1 (xs ++ l).length x.2] 71, .row (.slice x.1 (xs ++ l).length x.2) 5 1 (xs ++ l).length ((xs ++ l).flatMap eU)]) (fun x => True) := by
  refine Mut.of e_33 Tryd.func33 rfl Tryd.ntmps33 rfl rfl (fun base w0 F hfr => ?_)
  refine Ex.regSeq (ExL.pures 2 rfl ?_)
  refine ExL.nil ?_
  refine Ex.regSeq (ExL.pures 1 rfl ?_)
  refine ExL.op rfl (op_mut rfl rfl rfl (copyCheck_j b u _ _ _) (perm_at (i := 0) rfl) (trivial) rfl rfl (fun x1 hx1 => ?_))
  refine ExL.nil ?_
  refine Ex.regSeq (ExL.pures 4 rfl ?_)
  refine ExL.free (fr_load rfl rfl rfl rfl (CellO.blk (i := 0) rfl rfl)) rfl rfl rfl ?_
  refine ExL.pures 1 rfl ?_
  refine ExL.op rfl (op_appendT (xs := xs) (l := l) (i := 1) rfl rfl rfl rfl rfl rfl rfl rfl (by omega) rfl rfl (fun A2 cA2 => ?_))
  refine ExL.pures 2 rfl ?_
  refine ExL.op rfl (op_storeC (i := 0) rfl rfl rfl rfl rfl rfl rfl rfl rfl rfl ?_)
  refine ExL.nil ?_
  refine Ex.regSeq (ExL.pures 1 rfl ?_)
  refine ExL.free (fr_lenS (l := l) rfl rfl rfl) rfl rfl rfl ?_
  refine ExL.pures 2 rfl ?_
  refine ExL.nil ?_
  refine Ex.ret ?_
  refine MutQ.mk (A2, cA2) rfl (.tmp rfl (.tmp rfl .nil)) (rfl) 2 [0, 1] (rfl) rfl (trivial)
theorem e_35 : Enters Tryd.prog 35 := Enters.of Tryd.func35 rfl
theorem c_String_0 (b : Nat) (u : Bool) : Mut Tryd.prog 35 [.pointer (some ⟨b, 0, none⟩)] [.blk b [bp b u, .slice none 0 0] 71] (fun base w0 F => True) (fun x : Unit => sv []) (fun x => []) (fun x => True) := by
  refine Mut.of e_35 Tryd.func35 rfl Tryd.ntmps35 rfl rfl (fun base w0 F hfr => ?_)
  refine Ex.regSeq (ExL.pures 1 rfl ?_)
  refine ExL.nil ?_
  refine Ex.drawSeqM rfl ?_
  refine ExD.take (i := 0) rfl (by kernel_rfl) (pureVal_ok rfl) ((List.Sublist.refl _)) rfl rfl rfl ?_
  refine ExD.take (i := 1) rfl (by kernel_rfl) (pureVal_ok rfl) ((List.Sublist.refl _)) rfl rfl rfl ?_
  refine ExD.take (i := 2) rfl (by kernel_rfl) (pureVal_ok rfl) ((List.Sublist.refl _)) rfl rfl rfl ?_
  refine ExD.take (i := 3) rfl (by kernel_rfl) (fr_load rfl rfl rfl rfl (CellO.blk (i := 0) rfl rfl)) ((List.Sublist.refl _)) rfl rfl rfl ?_
  refine ExD.take (i := 4) rfl (by kernel_rfl) (fr_sliceData_n rfl rfl) ((List.Sublist.refl _)) rfl rfl rfl ?_
  refine ExD.take (i := 5) rfl (by kernel_rfl) (pureVal_ok rfl) ((List.Sublist.refl _)) rfl rfl rfl ?_
  refine ExD.take (i := 6) rfl (by kernel_rfl) (pureVal_ok rfl) ((List.Sublist.refl _)) rfl rfl rfl ?_
  refine ExD.take (i := 7) rfl (by kernel_rfl) (pureVal_ok rfl) ((List.Sublist.refl _)) rfl rfl rfl ?_
  refine ExD.take (i := 8) rfl (by kernel_rfl) (fr_load rfl rfl rfl rfl (CellO.blk (i := 0) rfl rfl)) ((List.Sublist.refl _)) rfl rfl rfl ?_
  refine ExD.take (i := 9) rfl (by kernel_rfl) (pureVal_ok rfl) ((List.Sublist.refl _)) rfl rfl rfl ?_
  refine ExD.take (i := 10) rfl (by kernel_rfl) (fr_unsafeString_n rfl rfl rfl) ((List.Sublist.refl _)) rfl rfl rfl ?_
  refine ExD.take (i := 11) rfl (by kernel_rfl) (pureVal_ok rfl) ((List.Sublist.refl _)) rfl rfl rfl ?_
  refine ExD.done (by kernel_rfl) ?_
  refine Ex.ret ?_
  refine MutQ.mk () rfl (.tmp rfl .nil) (rfl) 1 [] (rfl) rfl (trivial)
theorem c_String_1 (b : Nat) (u : Bool) (xs : List UInt8) (A : Option Addr) (c : Nat) (h0 : 0 < xs.length) : Mut Tryd.prog 35 [.pointer (some ⟨b, 0, none⟩)] [.blk b [bp b u, .slice A xs.length c] 71, .row (.slice A xs.length c) 5 1 xs.length (xs.flatMap eU)] (fun base w0 F => True) (fun x : Unit => sv xs) (fun x => []) (fun x => True) := by
  refine Mut.of e_35 Tryd.func35 rfl Tryd.ntmps35 rfl rfl (fun base w0 F hfr => ?_)
  refine Ex.know (row_own (i := 1) rfl h0) (fun ⟨g, hg, hc0⟩ => ?_)
  subst hg
  refine Ex.regSeq (ExL.pures 1 rfl ?_)
  refine ExL.nil ?_
  refine Ex.drawSeqI [0] rfl rfl ?_
  refine ExD.take (i := 0) rfl (by kernel_rfl) (pureVal_ok rfl) ((List.Sublist.cons_cons _ (List.nil_sublist _))) rfl rfl rfl ?_
  refine ExD.take (i := 1) rfl (by kernel_rfl) (pureVal_ok rfl) ((List.Sublist.cons_cons _ (List.nil_sublist _))) rfl rfl rfl ?_
  refine ExD.take (i := 2) rfl (by kernel_rfl) (pureVal_ok rfl) ((List.Sublist.cons_cons _ (List.nil_sublist _))) rfl rfl rfl ?_
  refine ExD.take (i := 3) rfl (by kernel_rfl) (fr_load rfl rfl rfl rfl (CellO.blk (i := 0) rfl rfl)) ((List.Sublist.cons_cons _ (List.nil_sublist _))) rfl rfl rfl ?_
  refine ExD.take (i := 4) rfl (by kernel_rfl) (fr_sliceData rfl rfl hc0) ((List.Sublist.cons_cons _ (List.nil_sublist _))) rfl rfl rfl ?_
  refine ExD.take (i := 5) rfl (by kernel_rfl) (pureVal_ok rfl) ((List.Sublist.cons_cons _ (List.nil_sublist _))) rfl rfl rfl ?_
  refine ExD.take (i := 6) rfl (by kernel_rfl) (pureVal_ok rfl) ((List.Sublist.cons_cons _ (List.nil_sublist _))) rfl rfl rfl ?_
  refine ExD.take (i := 7) rfl (by kernel_rfl) (pureVal_ok rfl) ((List.Sublist.cons_cons _ (List.nil_sublist _))) rfl rfl rfl ?_
  refine ExD.take (i := 8) rfl (by kernel_rfl) (fr_load rfl rfl rfl rfl (CellO.blk (i := 0) rfl rfl)) ((List.Sublist.cons_cons _ (List.nil_sublist _))) rfl rfl rfl ?_
  refine ExD.take (i := 9) rfl (by kernel_rfl) (pureVal_ok rfl) ((List.Sublist.cons_cons _ (List.nil_sublist _))) rfl rfl rfl ?_
  refine ExD.op (i := 10) rfl (by kernel_rfl) rfl (op_unsafeString (i := 1) (l := xs) rfl rfl rfl rfl rfl rfl rfl rfl (by omega) rfl rfl ⟨(List.Sublist.cons_cons _ (List.nil_sublist _)), ?_⟩)
  refine ExD.take (i := 11) rfl (by kernel_rfl) (pureVal_ok rfl) ((List.Sublist.cons_cons _ (List.nil_sublist _))) rfl rfl rfl ?_
  refine ExD.done (by kernel_rfl) ?_
  refine Ex.ret ?_
  refine MutQ.mk () rfl (.tmp rfl .nil) (rfl) 1 [] (rfl) rfl (trivial)
theorem c_String (b : Nat) (u : Bool) (xs : List UInt8) (A : Option Addr) (c : Nat) (h0 : xs = [] → A = none ∧ c = 0) : Mut Tryd.prog 35 [.pointer (some ⟨b, 0, none⟩)] [.blk b [bp b u, .slice A xs.length c] 71, .row (.slice A xs.length c) 5 1 xs.length (xs.flatMap eU)] (fun _ _ _ => True) (fun _ : Unit => sv xs) (fun _ => []) (fun _ => True) := by
  rcases Nat.eq_zero_or_pos xs.length with h | h
  · obtain rfl := List.eq_nil_of_length_eq_zero h
    obtain ⟨rfl, rfl⟩ := h0 rfl
    exact ⟨(c_String_0 b u).1, fun base w0 F w hf hh => (c_String_0 b u).2 base w0 F w hf (hh.sub (by exact List.Sublist.cons_cons _ (List.Sublist.cons _ (List.Sublist.refl _))))⟩
  · exact c_String_1 b u xs A c h
end Go.Proofs.YthfbmkfbmmjchaaDoor
