/- What these functions of the program hand back, each proved by walking its operations. -/
import Derived.Test.YtepahnikcojepaaProg
import Derived.Test.YtepahnikcojepaaFw
import Derived.Test.YtepahnikcojepaaGT2
import Derived.Test.YtepahnikcojepaaGZP
import Derived.Test.YtepahnikcojepaaM13
set_option linter.unusedVariables false
set_option linter.unusedSimpArgs false
set_option maxRecDepth 4000
namespace Go.Proofs.Ytepahnikcojepaa
open Go Go.Sx Go.RowKit Go.W Go.Proofs
attribute [local irreducible] Ex ExL ExD Op1 Free RetQ MutQ Reads CellO SegO LoadsAs
theorem e_27 : Enters Try.prog 27 := Enters.of Try.func27 rfl
theorem c_szTotalSS (L : List VS) (AL : Option Addr) (cL : Nat) (hlL : L.length ≤ maxLen) (hLn : ∀ k, k < L.length → (L.getD k zS).xs.length ≤ maxLen) (n : Int) (hn : 0 ≤ n ∧ n ≤ 1048576) : Ret Try.prog 27 [.slice AL L.length cL, .int .i64 n] (fun w => Rd w AL (L.flatMap encS) ∧ ∀ k, k < L.length → Rd w (L.getD k zS).A ((L.getD k zS).xs.flatMap encP)) (fun x : Int => .int .i64 x) (fun x => []) (fun x => x ≤ n ∧ (0 ≤ x → (L.length : Int) + totI L L.length ≤ n)) := by
  refine Ret.of e_27 Try.func27 rfl Try.ntmps27 rfl rfl (fun w hpre => ?_)
  have hL := hpre.1.base
  have hLr := fun k hk => (hpre.2 k hk).base
  have hm0 : maxLen = 9223372036854775807 := rfl
  refine Ex.regSeq (ExL.pures 1 rfl ?_)
  refine ExL.nil ?_
  refine Ex.regSeq (ExL.pures 3 rfl ?_)
  refine ExL.free (by first | exact fr_sub64 rfl rfl rfl (by omega) | exact fr_sub rfl rfl rfl) rfl rfl rfl ?_
  refine ExL.pures 1 rfl ?_
  refine ExL.nil ?_
  refine Ex.seq ?_
  refine Ex.regSeq (ExL.pures 1 rfl ?_)
  refine ExL.lss rfl rfl rfl rfl rfl rfl (fun h1 => ?_) (fun h1 => ?_)
  · refine ExL.nil ?_
    refine Ex.cond_t rfl ?_
    refine Ex.regSeq (ExL.pures 1 rfl ?_)
    refine ExL.nil ?_
    refine Ex.ret ?_
    refine RetQ.mk _ rfl (.tmp rfl .nil) (rfl) [] (rfl) rfl (by first | (exact ⟨by omega, fun h => by omega⟩) | omega)
  · refine ExL.nil ?_
    refine Ex.cond_f rfl ?_
    refine Ex.skip ?_
    refine Ex.seq ?_
    refine Ex.regSeq (ExL.pures 1 rfl ?_)
    refine ExL.nil ?_
    refine Ex.block ?_
    refine Ex.loopK (X := Nat) (fun k => [(1, .int .i64 (n - L.length - totI L k)), (5, .int .i64 k)]) (fun k => []) (fun k => k ≤ L.length ∧ 0 ≤ n - (L.length : Int) - totI L k) (fun k => L.length - k) 0 [(0, _)] [] 0 [] ⟨agI (by simp [totI]), rfl, trivial⟩ ⟨rfl, trivial⟩ (rfl) rfl ⟨Nat.zero_le _, by simp [totI]; omega⟩ (fun k hI => ?_)
    have hI : k ≤ L.length ∧ 0 ≤ n - (L.length : Int) - totI L k := hI
    obtain ⟨hk, hnn⟩ := hI
    have ht0 := totI_0 L k
    refine Ex.seq ?_
    refine Ex.regSeq (ExL.pures 3 rfl ?_)
    refine ExL.lss rfl rfl rfl rfl rfl rfl (fun h2 => ?_) (fun h2 => ?_)
    · refine ExL.nil ?_
      refine Ex.cond_t rfl ?_
      refine Ex.skip ?_
      refine Ex.seq ?_
      refine Ex.block ?_
      have hnk := hLn k (by omega)
      refine Ex.regSeq (ExL.pures 2 rfl ?_)
      refine ExL.free (fr_indexAddrF (Reads.old hL) encS_len rfl rfl rfl rfl rfl rfl (by omega)) rfl rfl rfl ?_
      refine ExL.free (fr_load rfl rfl rfl rfl (by first | exact cellN (Reads.old hL) encS_len zS 0 rfl (by omega) rfl | exact cellF (Reads.old hL) encS_len zS 0 rfl (by omega) rfl)) rfl rfl rfl ?_
      refine ExL.pures 1 rfl ?_
      refine ExL.op rfl (op_ret rfl rfl rfl (c_szTotalS _ _ _ (by omega) _ (by omega)) (fun _ _ => trivial) rfl rfl (fun x3 hx3 => ?_))
      refine ExL.pures 1 rfl ?_
      refine ExL.nil ?_
      refine Ex.regSeq (ExL.pures 1 rfl ?_)
      refine ExL.lss rfl rfl rfl rfl rfl rfl (fun h4 => ?_) (fun h4 => ?_)
      · refine ExL.nil ?_
        refine Ex.cond_t rfl ?_
        refine Ex.regSeq (ExL.pures 1 rfl ?_)
        refine ExL.nil ?_
        refine Ex.ret ?_
        refine RetQ.mk _ rfl (.tmp rfl .nil) (rfl) [] (rfl) rfl (by first | (exact ⟨by omega, fun h => by omega⟩) | omega)
      · refine ExL.nil ?_
        refine Ex.cond_f rfl ?_
        refine Ex.skip ?_
        refine Ex.region (ExL.pures 1 rfl ?_)
        refine ExL.free (by first | exact fr_add64 rfl rfl rfl (by omega) | exact fr_add rfl rfl rfl) rfl rfl rfl ?_
        refine ExL.pures 1 rfl ?_
        refine ExL.nil ?_
        refine Hand.mk (k + 1) 0 [] ⟨agI (by rw [totI]; omega), rfl, trivial⟩ ⟨rfl, trivial⟩ (rfl) rfl (⟨by omega, by rw [totI]; omega⟩) (by omega)
    · refine ExL.nil ?_
      refine Ex.cond_f rfl ?_
      refine Ex.exit ?_
      obtain rfl : k = L.length := (by omega)
      refine Ex.regSeq (ExL.pures 2 rfl ?_)
      refine ExL.nil ?_
      refine Ex.ret ?_
      refine RetQ.mk _ rfl (.tmp rfl .nil) (rfl) [] (rfl) rfl (by first | (exact ⟨by omega, fun h => by omega⟩) | omega)
theorem e_29 : Enters Try.prog 29 := Enters.of Try.func29 rfl
theorem c_toTotalSS (L : List VS) (AL : Option Addr) (cL : Nat) (hlL : L.length ≤ 1048576) (hLn : ∀ k, k < L.length → (L.getD k zS).xs.length ≤ 1048576) : Ret Try.prog 29 [.slice AL L.length cL] (fun w => Rd w AL (L.flatMap encS) ∧ ∀ k, k < L.length → Rd w (L.getD k zS).A ((L.getD k zS).xs.flatMap encP)) (fun x : Nat × List VS => .slice (some ⟨x.1, 0, none⟩) x.2.length x.2.length) (fun x => [.row (.slice (some ⟨x.1, 0, none⟩) x.2.length x.2.length) 26 1 x.2.length (x.2.flatMap encS), .pile (x.2.map (rwP 79))]) (fun x => x.2.map (·.xs) = L.map (·.xs)) := by
  refine Ret.of e_29 Try.func29 rfl Try.ntmps29 rfl rfl (fun w hpre => ?_)
  have hL := hpre.1.base
  have hLr := fun k hk => (hpre.2 k hk).base
  have hm0 : maxLen = 9223372036854775807 := rfl
  refine Ex.regSeq (ExL.pures 1 rfl ?_)
  refine ExL.nil ?_
  refine Ex.regSeq (ExL.pures 2 rfl ?_)
  refine ExL.op rfl (op_makeSlice (sz := 24) rfl rfl rfl rfl rfl rfl rfl rfl (⟨by omega, by unfold maxLen; omega⟩) rfl rfl (fun r1 => ?_))
  refine ExL.pures 1 rfl ?_
  refine ExL.nil ?_
  refine Ex.seq ?_
  refine Ex.pile0 ?_
  refine Ex.regSeq (ExL.pures 1 rfl ?_)
  refine ExL.nil ?_
  refine Ex.block ?_
  refine Ex.loopK (X := List VS) (fun K => [(4, .int .i64 K.length)]) (fun K => [.row (.slice (some ⟨r1, 0, none⟩) L.length L.length) 26 1 L.length ((outP K L.length).flatMap encS), .pile (K.map (rwP 79))]) (fun K => K.length ≤ L.length ∧ K.map (·.xs) = (L.map (·.xs)).take K.length) (fun K => L.length - K.length) [] [(0, _), (2, _), (3, _)] [] 2 [1, 0] ⟨rfl, trivial⟩ ⟨rfl, rfl, rfl, trivial⟩ (pkR (zout rfl)) rfl ⟨Nat.zero_le _, rfl⟩ (fun K hI => ?_)
  have hI : K.length ≤ L.length ∧ K.map (·.xs) = (L.map (·.xs)).take K.length := hI
  obtain ⟨hK, hKm⟩ := hI
  refine Ex.seq ?_
  refine Ex.regSeq (ExL.pures 3 rfl ?_)
  refine ExL.lss rfl rfl rfl rfl rfl rfl (fun h2 => ?_) (fun h2 => ?_)
  · refine ExL.nil ?_
    refine Ex.cond_t rfl ?_
    refine Ex.skip ?_
    refine Ex.seq ?_
    refine Ex.block ?_
    have hnk := hLn K.length (by omega)
    refine Ex.region (ExL.pures 4 rfl ?_)
    refine ExL.free (fr_indexAddrF (Reads.old hL) encS_len rfl rfl rfl rfl rfl rfl (by omega)) rfl rfl rfl ?_
    refine ExL.free (fr_load rfl rfl rfl rfl (cellJ (i := ↑K.length) (K.length) (Reads.old hL) encS_len zS 0 rfl (by omega) (by omega) rfl)) rfl rfl rfl ?_
    refine ExL.op rfl (op_ret rfl rfl rfl (c_toTotalS (L.getD K.length zS).xs _ _ (by omega)) (Reads.get (Reads.old (hLr K.length (by omega)))) rfl rfl (fun x3 hx3 => ?_))
    refine ExL.free (fr_indexAddr (sz := 1) rfl rfl rfl rfl rfl rfl (by omega)) rfl rfl rfl ?_
    refine ExL.op rfl (op_storeRowF (i := 1) rfl rfl rfl rfl rfl rfl rfl rfl (room encS_len (k := K.length) (by rw [outP_len (by omega)]; omega) (by simp) rfl) (List.cons_ne_nil _ _) rfl (outP_put (⟨(some ⟨x3, 0, none⟩), (L.getD K.length zS).xs.length, (L.getD K.length zS).xs⟩ : VS) (by omega) (by simp) rfl) ?_)
    refine ExL.nil ?_
    refine Ex.conv (layEnd (perm_lt (i := 0) (j := 2) rfl rfl rfl)) ?_
    refine Ex.region (ExL.pures 1 rfl ?_)
    refine ExL.free (by first | exact fr_add64 rfl rfl rfl (by omega) | exact fr_add rfl rfl rfl) rfl rfl rfl ?_
    refine ExL.pures 1 rfl ?_
    refine ExL.nil ?_
    have hKn : (K ++ [(⟨(some ⟨x3, 0, none⟩), (L.getD K.length zS).xs.length, (L.getD K.length zS).xs⟩ : VS)]).length = K.length + 1 := by simp
    refine Hand.mk (K ++ [(⟨(some ⟨x3, 0, none⟩), (L.getD K.length zS).xs.length, (L.getD K.length zS).xs⟩ : VS)]) 2 [1, 0] ⟨agI (by rw [hKn]; rfl), trivial⟩ ⟨rfl, rfl, rfl, trivial⟩ (by rw [List.map_append]; rfl) rfl (⟨by rw [hKn]; omega, map_step hKm (by omega) rfl⟩) (by rw [hKn]; omega)
  · refine ExL.nil ?_
    refine Ex.cond_f rfl ?_
    refine Ex.exit ?_
    have hKn : K.length = L.length := by omega
    have hKe := map_fin hKm hKn
    refine Ex.regSeq (ExL.pures 2 rfl ?_)
    refine ExL.nil ?_
    refine Ex.ret ?_
    refine RetQ.mk (r1, K) rfl (.tmp rfl .nil) (tV (by rw [hKn])) [0, 1] (by rw [← hKn, outP_all rfl]; rfl) rfl (hKe)
theorem e_33 : Enters Try.prog 33 := Enters.of Try.func33 rfl
theorem c_markTotalSS (K : List VS) (b : Nat) (hK : totI K K.length ≤ 10000000 ∧ K.length ≤ 10000000) (k : Int) (hk : 0 ≤ k ∧ k ≤ 100000000) : Mut Try.prog 33 [.slice (some ⟨b, 0, none⟩) K.length K.length, .int .i64 k] [.row (.slice (some ⟨b, 0, none⟩) K.length K.length) 26 1 K.length (K.flatMap encS), .pile (K.map (rwP 79))] (fun base w0 F => True) (fun x : Unit => .int .i64 (k + 2 * totI K K.length)) (fun x => [.row (.slice (some ⟨b, 0, none⟩) K.length K.length) 26 1 K.length (K.flatMap encS), .pile ((mkSS K k).map (rwP 79))]) (fun x => True) := by
  refine Mut.of e_33 Try.func33 rfl Try.ntmps33 rfl rfl (fun base w0 F hfr => ?_)
  obtain ⟨hK1, hK2⟩ := hK
  have hm0 : maxLen = 9223372036854775807 := rfl
  refine Ex.regSeq (ExL.pures 1 rfl ?_)
  refine ExL.nil ?_
  refine Ex.seq ?_
  refine Ex.regSeq (ExL.pures 1 rfl ?_)
  refine ExL.nil ?_
  refine Ex.block ?_
  refine Ex.loopK (X := Nat) (fun i => [(1, .int .i64 (k + 2 * totI K i)), (5, .int .i64 i)]) (fun i => [.pile ((midS K k i).map (rwP 79))]) (fun i => i ≤ K.length) (fun i => K.length - i) 0 [(0, _), (4, _)] (_ :: F) 2 [1, 0] ⟨agI (by simp [totI]), rfl, trivial⟩ ⟨rfl, rfl, trivial⟩ (by rw [mid_0]; rfl) rfl (Nat.zero_le _) (fun i hI => ?_)
  have hI : i ≤ K.length := hI
  have ht1 := totI_0 K i
  have ht2 := totI_mono K hI
  refine Ex.seq ?_
  refine Ex.regSeq (ExL.pures 3 rfl ?_)
  refine ExL.lss rfl rfl rfl rfl rfl rfl (fun h1 => ?_) (fun h1 => ?_)
  · refine ExL.nil ?_
    refine Ex.cond_t rfl ?_
    refine Ex.skip ?_
    refine Ex.seq ?_
    refine Ex.block ?_
    have hik : i < K.length := by omega
    have ht3 := totI_each K hik
    refine Ex.conv (liftP (mid_at hik 79) (perm_at (i := 0) rfl)) ?_
    refine Ex.region (ExL.pures 2 rfl ?_)
    refine ExL.free (fr_indexAddr (sz := 1) rfl rfl rfl rfl rfl rfl (by omega)) rfl rfl rfl ?_
    refine ExL.free (fr_load rfl rfl rfl rfl (by first | exact cellN (Reads.row (i := 2) rfl) encS_len zS 0 rfl (by omega) rfl | exact cellF (Reads.row (i := 2) rfl) encS_len zS 0 rfl (by omega) rfl)) rfl rfl rfl ?_
    refine ExL.pures 1 rfl ?_
    refine ExL.op rfl (op_mut rfl rfl rfl (c_markTotalS (K.getD i zS).xs _ _ _ (by omega) (k + 2 * totI K i) (by omega)) (perm_at (i := 0) rfl) (trivial) rfl rfl (fun x2 hx2 => ?_))
    refine ExL.pures 1 rfl ?_
    refine ExL.nil ?_
    refine Ex.conv (layP (mid_next hik 79) (mkP_len _ _) (perm_lt (i := 0) (j := 1) rfl rfl rfl)) ?_
    refine Ex.region (ExL.pures 1 rfl ?_)
    refine ExL.free (by first | exact fr_add64 rfl rfl rfl (by omega) | exact fr_add rfl rfl rfl) rfl rfl rfl ?_
    refine ExL.pures 1 rfl ?_
    refine ExL.nil ?_
    refine Hand.mk (i + 1) 2 [0, 1] ⟨agI (by rw [totI]; omega), rfl, trivial⟩ ⟨rfl, rfl, trivial⟩ (rfl) rfl (by omega) (by omega)
  · refine ExL.nil ?_
    refine Ex.cond_f rfl ?_
    refine Ex.exit ?_
    obtain rfl : i = K.length := (by omega)
    refine Ex.regSeq (ExL.pures 2 rfl ?_)
    refine ExL.nil ?_
    refine Ex.ret ?_
    refine MutQ.mk () rfl (.tmp rfl .nil) (rfl) 2 [1, 0] (by rw [← mid_all]; rfl) rfl (trivial)
theorem e_32 : Enters Try.prog 32 := Enters.of Try.func32 rfl
theorem c_eqTotalSS (s : List VS) (As : Option Addr) (cs : Nat) (hls : s.length ≤ maxLen) (hns : ∀ k, k < s.length → (s.getD k zS).xs.length ≤ maxLen) (t : List VS) (At : Option Addr) (ct : Nat) (hlt : t.length ≤ maxLen) (hnt : ∀ k, k < t.length → (t.getD k zS).xs.length ≤ maxLen) (hst : s.map (·.xs) = t.map (·.xs)) : Ret Try.prog 32 [.slice As s.length cs, .slice At t.length ct] (fun w => Rd w As (s.flatMap encS) ∧ (∀ k, k < s.length → Rd w (s.getD k zS).A ((s.getD k zS).xs.flatMap encP)) ∧ Rd w At (t.flatMap encS) ∧ ∀ k, k < t.length → Rd w (t.getD k zS).A ((t.getD k zS).xs.flatMap encP)) (fun x : Unit => .bool true) (fun x => []) (fun x => True) := by
  refine Ret.of e_32 Try.func32 rfl Try.ntmps32 rfl rfl (fun w hpre => ?_)
  have hs := hpre.1.base
  have hsr := fun k hk => (hpre.2.1 k hk).base
  have ht := hpre.2.2.1.base
  have htr := fun k hk => (hpre.2.2.2 k hk).base
  have hln := map_len hst
  have hm0 : maxLen = 9223372036854775807 := rfl
  refine Ex.regSeq (ExL.pures 1 rfl ?_)
  refine ExL.nil ?_
  refine Ex.seq ?_
  refine Ex.regSeq (ExL.pures 4 rfl ?_)
  refine ExL.neq rfl rfl rfl rfl rfl rfl (fun h1 => ?_) (fun h1 => ?_)
  · refine ExL.nil ?_
    refine Ex.cond_t rfl ?_
    refine Ex.regSeq (ExL.pures 1 rfl ?_)
    refine ExL.nil ?_
    refine Ex.ret ?_
    refine RetQ.mk () rfl (.tmp rfl .nil) (tB (by first | rfl | (exfalso; omega) | (exfalso; have h9 := eq_ss hst k; simp_all; done))) [] (rfl) rfl (trivial)
  · refine ExL.nil ?_
    refine Ex.cond_f rfl ?_
    refine Ex.skip ?_
    refine Ex.seq ?_
    refine Ex.regSeq (ExL.pures 1 rfl ?_)
    refine ExL.nil ?_
    refine Ex.block ?_
    refine Ex.loopK (X := Nat) (fun k => [(5, .int .i64 k)]) (fun k => []) (fun k => k ≤ s.length) (fun k => s.length - k) 0 [(0, _), (1, _)] [] 0 [] ⟨rfl, trivial⟩ ⟨rfl, rfl, trivial⟩ (rfl) rfl (Nat.zero_le _) (fun k hI => ?_)
    have hI : k ≤ s.length := hI
    refine Ex.seq ?_
    refine Ex.regSeq (ExL.pures 3 rfl ?_)
    refine ExL.lss rfl rfl rfl rfl rfl rfl (fun h2 => ?_) (fun h2 => ?_)
    · refine ExL.nil ?_
      refine Ex.cond_t rfl ?_
      refine Ex.skip ?_
      refine Ex.seq ?_
      refine Ex.block ?_
      have hnk1 := hns k (by omega)
      have hnk2 := hnt k (by omega)
      refine Ex.drawSeqM rfl ?_
      refine ExD.take (i := 0) rfl (by kernel_rfl) (pureVal_ok rfl) ((List.Sublist.refl _)) rfl rfl rfl ?_
      refine ExD.take (i := 1) rfl (by kernel_rfl) (pureVal_ok rfl) ((List.Sublist.refl _)) rfl rfl rfl ?_
      refine ExD.take (i := 2) rfl (by kernel_rfl) (fr_indexAddrF (Reads.old hs) encS_len rfl rfl rfl rfl rfl rfl (by omega)) ((List.Sublist.refl _)) rfl rfl rfl ?_
      refine ExD.take (i := 3) rfl (by kernel_rfl) (fr_load rfl rfl rfl rfl (by first | exact cellN (Reads.old hs) encS_len zS 0 rfl (by omega) rfl | exact cellF (Reads.old hs) encS_len zS 0 rfl (by omega) rfl)) ((List.Sublist.refl _)) rfl rfl rfl ?_
      refine ExD.take (i := 4) rfl (by kernel_rfl) (pureVal_ok rfl) ((List.Sublist.refl _)) rfl rfl rfl ?_
      refine ExD.take (i := 5) rfl (by kernel_rfl) (pureVal_ok rfl) ((List.Sublist.refl _)) rfl rfl rfl ?_
      refine ExD.take (i := 6) rfl (by kernel_rfl) (fr_indexAddrF (Reads.old ht) encS_len rfl rfl rfl rfl rfl rfl (by omega)) ((List.Sublist.refl _)) rfl rfl rfl ?_
      refine ExD.take (i := 7) rfl (by kernel_rfl) (fr_load rfl rfl rfl rfl (by first | exact cellN (Reads.old ht) encS_len zS 0 rfl (by omega) rfl | exact cellF (Reads.old ht) encS_len zS 0 rfl (by omega) rfl)) ((List.Sublist.refl _)) rfl rfl rfl ?_
      refine ExD.op (i := 8) rfl (by kernel_rfl) rfl (op_ret rfl rfl rfl (c_eqTotalS (s.getD k zS).xs _ _ (by omega) (t.getD k zS).xs _ _ (by omega)) (fun w hw => ⟨Reads.get (Reads.old (hsr k (by omega))) w hw, Reads.get (Reads.old (htr k (by omega))) w hw⟩) rfl rfl (fun x3 hx3 => ⟨(List.Sublist.refl _), ?_⟩))
      refine ExD.take (i := 9) rfl (by kernel_rfl) (pureVal_ok rfl) ((List.Sublist.refl _)) rfl rfl rfl ?_
      refine ExD.done (by kernel_rfl) ?_
      refine Ex.cond rfl (fun hb4 => ?_) (fun hb4 => ?_)
      · replace hb4 := nb_t hb4
        refine Ex.regSeq (ExL.pures 1 rfl ?_)
        refine ExL.nil ?_
        refine Ex.ret ?_
        refine RetQ.mk () rfl (.tmp rfl .nil) (tB (by first | rfl | (exfalso; omega) | (exfalso; have h9 := eq_ss hst k; simp_all; done))) [] (rfl) rfl (trivial)
      · replace hb4 := nb_f hb4
        refine Ex.skip ?_
        refine Ex.region (ExL.pures 1 rfl ?_)
        refine ExL.free (by first | exact fr_add64 rfl rfl rfl (by omega) | exact fr_add rfl rfl rfl) rfl rfl rfl ?_
        refine ExL.pures 1 rfl ?_
        refine ExL.nil ?_
        refine Hand.mk (k + 1) 0 [] ⟨rfl, trivial⟩ ⟨rfl, rfl, trivial⟩ (rfl) rfl (by omega) (by omega)
    · refine ExL.nil ?_
      refine Ex.cond_f rfl ?_
      refine Ex.exit ?_
      refine Ex.regSeq (ExL.pures 1 rfl ?_)
      refine ExL.nil ?_
      refine Ex.ret ?_
      refine RetQ.mk () rfl (.tmp rfl .nil) (tB (by first | rfl | (exfalso; omega) | (exfalso; have h9 := eq_ss hst k; simp_all; done))) [] (rfl) rfl (trivial)
theorem e_31 : Enters Try.prog 31 := Enters.of Try.func31 rfl
theorem c_eqInt64S (s : List Int) (As : Option Addr) (cs : Nat) (hls : s.length ≤ maxLen) (t : List Int) (At : Option Addr) (ct : Nat) (hlt : t.length ≤ maxLen) : Ret Try.prog 31 [.slice As s.length cs, .slice At t.length ct] (fun w => Rd w As (s.flatMap (eI .i64)) ∧ Rd w At (t.flatMap (eI .i64))) (fun x : Unit => .bool (decide (s = t))) (fun x => []) (fun x => True) := by
  refine Ret.of e_31 Try.func31 rfl Try.ntmps31 rfl rfl (fun w hpre => ?_)
  have hs := hpre.1.base
  have ht := hpre.2.base
  have hm0 : maxLen = 9223372036854775807 := rfl
  refine Ex.regSeq (ExL.pures 1 rfl ?_)
  refine ExL.nil ?_
  refine Ex.seq ?_
  refine Ex.regSeq (ExL.pures 4 rfl ?_)
  refine ExL.neq rfl rfl rfl rfl rfl rfl (fun h1 => ?_) (fun h1 => ?_)
  · refine ExL.nil ?_
    refine Ex.cond_t rfl ?_
    refine Ex.regSeq (ExL.pures 1 rfl ?_)
    refine ExL.nil ?_
    refine Ex.ret ?_
    refine RetQ.mk () rfl (.tmp rfl .nil) (tB (by first | exact eq_len (by omega) | exact eq_no k (by assumption) | exact eq_yes (k := k) (by omega) (by omega) hall)) [] (rfl) rfl (trivial)
  · refine ExL.nil ?_
    refine Ex.cond_f rfl ?_
    refine Ex.skip ?_
    refine Ex.seq ?_
    refine Ex.regSeq (ExL.pures 1 rfl ?_)
    refine ExL.nil ?_
    refine Ex.block ?_
    refine Ex.loopK (X := Nat) (fun k => [(5, .int .i64 k)]) (fun k => []) (fun k => k ≤ s.length ∧ ∀ i, i < k → s.getD i 0 = t.getD i 0) (fun k => s.length - k) 0 [(0, _), (1, _)] [] 0 [] ⟨rfl, trivial⟩ ⟨rfl, rfl, trivial⟩ (rfl) rfl ⟨Nat.zero_le _, fun i hi => by omega⟩ (fun k hI => ?_)
    have hI : k ≤ s.length ∧ ∀ i, i < k → s.getD i 0 = t.getD i 0 := hI
    obtain ⟨hk, hall⟩ := hI
    refine Ex.seq ?_
    refine Ex.regSeq (ExL.pures 3 rfl ?_)
    refine ExL.lss rfl rfl rfl rfl rfl rfl (fun h2 => ?_) (fun h2 => ?_)
    · refine ExL.nil ?_
      refine Ex.cond_t rfl ?_
      refine Ex.skip ?_
      refine Ex.seq ?_
      refine Ex.block ?_
      refine Ex.drawSeqM rfl ?_
      refine ExD.take (i := 0) rfl (by kernel_rfl) (pureVal_ok rfl) ((List.Sublist.refl _)) rfl rfl rfl ?_
      refine ExD.take (i := 1) rfl (by kernel_rfl) (pureVal_ok rfl) ((List.Sublist.refl _)) rfl rfl rfl ?_
      refine ExD.take (i := 2) rfl (by kernel_rfl) (fr_indexAddrF (Reads.old hs) (eI_len .i64) rfl rfl rfl rfl rfl rfl (by omega)) ((List.Sublist.refl _)) rfl rfl rfl ?_
      refine ExD.take (i := 3) rfl (by kernel_rfl) (fr_load rfl rfl rfl rfl (by first | exact cellN (Reads.old hs) (eI_len .i64) 0 0 rfl (by omega) rfl | exact cellF (Reads.old hs) (eI_len .i64) 0 0 rfl (by omega) rfl)) ((List.Sublist.refl _)) rfl rfl rfl ?_
      refine ExD.take (i := 4) rfl (by kernel_rfl) (pureVal_ok rfl) ((List.Sublist.refl _)) rfl rfl rfl ?_
      refine ExD.take (i := 5) rfl (by kernel_rfl) (pureVal_ok rfl) ((List.Sublist.refl _)) rfl rfl rfl ?_
      refine ExD.take (i := 6) rfl (by kernel_rfl) (fr_indexAddrF (Reads.old ht) (eI_len .i64) rfl rfl rfl rfl rfl rfl (by omega)) ((List.Sublist.refl _)) rfl rfl rfl ?_
      refine ExD.take (i := 7) rfl (by kernel_rfl) (fr_load rfl rfl rfl rfl (by first | exact cellN (Reads.old ht) (eI_len .i64) 0 0 rfl (by omega) rfl | exact cellF (Reads.old ht) (eI_len .i64) 0 0 rfl (by omega) rfl)) ((List.Sublist.refl _)) rfl rfl rfl ?_
      refine ExD.cmp_neq (i := 8) rfl (by kernel_rfl) rfl rfl rfl ((List.Sublist.refl _)) rfl rfl rfl (fun h3 => ?_) (fun h3 => ?_)
      · refine ExD.done (by kernel_rfl) ?_
        refine Ex.cond_t rfl ?_
        refine Ex.regSeq (ExL.pures 1 rfl ?_)
        refine ExL.nil ?_
        refine Ex.ret ?_
        refine RetQ.mk () rfl (.tmp rfl .nil) (tB (by first | exact eq_len (by omega) | exact eq_no k (by assumption) | exact eq_yes (k := k) (by omega) (by omega) hall)) [] (rfl) rfl (trivial)
      · refine ExD.done (by kernel_rfl) ?_
        refine Ex.cond_f rfl ?_
        refine Ex.skip ?_
        refine Ex.region (ExL.pures 1 rfl ?_)
        refine ExL.free (by first | exact fr_add64 rfl rfl rfl (by omega) | exact fr_add rfl rfl rfl) rfl rfl rfl ?_
        refine ExL.pures 1 rfl ?_
        refine ExL.nil ?_
        refine Hand.mk (k + 1) 0 [] ⟨rfl, trivial⟩ ⟨rfl, rfl, trivial⟩ (rfl) rfl (⟨by omega, all_snoc hall (by first | assumption | omega)⟩) (by omega)
    · refine ExL.nil ?_
      refine Ex.cond_f rfl ?_
      refine Ex.exit ?_
      refine Ex.regSeq (ExL.pures 1 rfl ?_)
      refine ExL.nil ?_
      refine Ex.ret ?_
      refine RetQ.mk () rfl (.tmp rfl .nil) (tB (by first | exact eq_len (by omega) | exact eq_no k (by assumption) | exact eq_yes (k := k) (by omega) (by omega) hall)) [] (rfl) rfl (trivial)
theorem e_80 : Enters Try.prog 80 := Enters.of Try.func80 rfl
theorem c_leak1 (l : List VP) (Al : Option Addr) (cl : Nat) (hll : l.length ≤ maxLen) : Ret Try.prog 80 [.slice Al l.length cl] (fun w => Rd w Al (l.flatMap encP)) (fun x : Unit => .bool (!validTot l)) (fun x => []) (fun x => True) := by
  refine Ret.of e_80 Try.func80 rfl Try.ntmps80 rfl rfl (fun w hpre => ?_)
  have hl := hpre.base
  have hm0 : maxLen = 9223372036854775807 := rfl
  refine Ex.regSeq (ExL.pures 1 rfl ?_)
  refine ExL.nil ?_
  refine Ex.regSeq (ExL.pures 1 rfl ?_)
  refine ExL.op rfl (op_ret rfl rfl rfl (c_ValidTotals l _ _ (by omega)) (Reads.get (Reads.old hl)) rfl rfl (fun x1 hx1 => ?_))
  refine ExL.pures 2 rfl ?_
  refine ExL.nil ?_
  refine Ex.ret ?_
  refine RetQ.mk () rfl (.tmp rfl .nil) (rfl) [] (rfl) rfl (trivial)
theorem e_108 : Enters Try.prog 108 := Enters.of Try.func108 rfl
theorem c_slIndexFuncS (L : List VS) (AL : Option Addr) (cL : Nat) (hlL : L.length ≤ maxLen) (hnL : ∀ k, k < L.length → (L.getD k zS).xs.length ≤ maxLen) : Ret Try.prog 108 [.slice AL L.length cL, .func (.func 80) #[] #[]] (fun w => Rd w AL (L.flatMap encS) ∧ ∀ k, k < L.length → Rd w (L.getD k zS).A ((L.getD k zS).xs.flatMap encP)) (fun x : Unit => .int .i64 (idxF (fun r => !validTot r.xs) L)) (fun x => []) (fun x => True) := by
  refine Ret.of e_108 Try.func108 rfl Try.ntmps108 rfl rfl (fun w hpre => ?_)
  have hL := hpre.1.base
  have hLr := fun k hk => (hpre.2 k hk).base
  have hm0 : maxLen = 9223372036854775807 := rfl
  refine Ex.regSeq (ExL.pures 1 rfl ?_)
  refine ExL.nil ?_
  refine Ex.seq ?_
  refine Ex.regSeq (ExL.pures 3 rfl ?_)
  refine ExL.nil ?_
  refine Ex.block ?_
  refine Ex.loopK (X := Nat) (fun k => [(8, .int .i64 k)]) (fun k => []) (fun k => k ≤ L.length ∧ ∀ i, i < k → (fun r => !validTot r.xs) (L.getD i zS) = false) (fun k => L.length - k) 0 [(0, _), (1, _), (7, _)] [] 0 [] ⟨rfl, trivial⟩ ⟨rfl, rfl, rfl, trivial⟩ (rfl) rfl ⟨Nat.zero_le _, fun i hi => by omega⟩ (fun k hI => ?_)
  have hI : k ≤ L.length ∧ ∀ i, i < k → (fun r => !validTot r.xs) (L.getD i zS) = false := hI
  obtain ⟨hk, hall⟩ := hI
  refine Ex.regSeq (ExL.pures 0 rfl ?_)
  refine ExL.lss rfl rfl rfl rfl rfl rfl (fun h1 => ?_) (fun h1 => ?_)
  · refine ExL.nil ?_
    refine Ex.seq ?_
    refine Ex.cond_t rfl ?_
    refine Ex.skip ?_
    refine Ex.seq ?_
    refine Ex.block ?_
    have hk2 : k < L.length := by omega
    have hnk := hnL k hk2
    refine Ex.regSeq (ExL.pures 2 rfl ?_)
    refine ExL.nil ?_
    refine Ex.regSeq (ExL.pures 3 rfl ?_)
    refine ExL.free (fr_indexAddrF (Reads.old hL) encS_len rfl rfl rfl rfl rfl rfl (by omega)) rfl rfl rfl ?_
    refine ExL.free (fr_load rfl rfl rfl rfl (by first | exact cellN (Reads.old hL) encS_len zS 0 rfl (by omega) rfl | exact cellF (Reads.old hL) encS_len zS 0 rfl (by omega) rfl)) rfl rfl rfl ?_
    refine ExL.op rfl (op_ret rfl rfl rfl (c_leak1 (L.getD k zS).xs _ _ (by omega)) (Reads.get (Reads.old (hLr k (by omega)))) rfl rfl (fun x2 hx2 => ?_))
    refine ExL.nil ?_
    refine Ex.cond rfl (fun hb3 => ?_) (fun hb3 => ?_)
    · refine Ex.regSeq (ExL.pures 2 rfl ?_)
      refine ExL.nil ?_
      refine Ex.ret ?_
      refine RetQ.mk () rfl (.tmp rfl .nil) (tI (by first | exact (idx_hit (d := zS) (by omega) hall (by assumption)).symm | exact (idx_none (d := zS) (by omega) hall).symm)) [] (rfl) rfl (trivial)
    · refine Ex.skip ?_
      refine Ex.region (ExL.pures 0 rfl ?_)
      refine ExL.free (by first | exact fr_add64 rfl rfl rfl (by omega) | exact fr_add rfl rfl rfl) rfl rfl rfl ?_
      refine ExL.pures 1 rfl ?_
      refine ExL.nil ?_
      refine Hand.mk (k + 1) 0 [] ⟨rfl, trivial⟩ ⟨rfl, rfl, rfl, trivial⟩ (rfl) rfl (⟨by omega, all_snoc hall (by assumption)⟩) (by omega)
  · refine ExL.nil ?_
    refine Ex.seq ?_
    refine Ex.cond_f rfl ?_
    refine Ex.exit ?_
    refine Ex.regSeq (ExL.pures 1 rfl ?_)
    refine ExL.nil ?_
    refine Ex.ret ?_
    refine RetQ.mk () rfl (.tmp rfl .nil) (tI (by first | exact (idx_hit (d := zS) (by omega) hall (by assumption)).symm | exact (idx_none (d := zS) (by omega) hall).symm)) [] (rfl) rfl (trivial)
theorem e_79 : Enters Try.prog 79 := Enters.of Try.func79 rfl
theorem c_slContainsFuncS (L : List VS) (AL : Option Addr) (cL : Nat) (hlL : L.length ≤ maxLen) (hnL : ∀ k, k < L.length → (L.getD k zS).xs.length ≤ maxLen) : Ret Try.prog 79 [.slice AL L.length cL, .func (.func 80) #[] #[]] (fun w => Rd w AL (L.flatMap encS) ∧ ∀ k, k < L.length → Rd w (L.getD k zS).A ((L.getD k zS).xs.flatMap encP)) (fun x : Unit => .bool (L.any (fun r => !validTot r.xs))) (fun x => []) (fun x => True) := by
  refine Ret.of e_79 Try.func79 rfl Try.ntmps79 rfl rfl (fun w hpre => ?_)
  have hL := hpre.1.base
  have hLr := fun k hk => (hpre.2 k hk).base
  have hm0 : maxLen = 9223372036854775807 := rfl
  refine Ex.regSeq (ExL.pures 1 rfl ?_)
  refine ExL.nil ?_
  refine Ex.regSeq (ExL.pures 2 rfl ?_)
  refine ExL.op rfl (op_ret rfl rfl rfl (c_slIndexFuncS L _ _ (by first | omega | (simp only [List.length_cons]; omega)) (by assumption)) (fun w hw => ⟨Reads.get (Reads.old hL) w hw, fun k hk => Reads.get (Reads.old (hLr k hk)) w hw⟩) rfl rfl (fun x1 hx1 => ?_))
  refine ExL.geq rfl rfl rfl rfl rfl rfl (fun h2 => ?_) (fun h2 => ?_)
  · refine ExL.pures 1 rfl ?_
    refine ExL.nil ?_
    refine Ex.ret ?_
    refine RetQ.mk () rfl (.tmp rfl .nil) (tB (by rw [any_idx]; first | exact dec_t (by omega) | exact dec_f (by omega) | rfl)) [] (rfl) rfl (trivial)
  · refine ExL.pures 1 rfl ?_
    refine ExL.nil ?_
    refine Ex.ret ?_
    refine RetQ.mk () rfl (.tmp rfl .nil) (tB (by rw [any_idx]; first | exact dec_t (by omega) | exact dec_f (by omega) | rfl)) [] (rfl) rfl (trivial)
end Go.Proofs.Ytepahnikcojepaa
