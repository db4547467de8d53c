/- Several texts, one behind the other. -/
import Derived.Test.YtdfgbocmjgjclaaProg
import Derived.Test.YtdfgbocmjgjclaaXaa
import Derived.Test.YtdfgbocmjgjclaaXab
import Derived.Test.YtdfgbocmjgjclaaXba
import Derived.Test.YtdfgbocmjgjclaaXbb
import Derived.Test.YtdfgbocmjgjclaaXbc
/- What these functions of the program hand back, each proved by walking its operations. -/
set_option linter.unusedVariables false
set_option linter.unusedSimpArgs false
set_option maxRecDepth 4000
namespace Go.Proofs.Ytdfgbocmjgjclaa
open Go Go.Sx Go.RowKit Go.W Go.Proofs
attribute [local irreducible] Ex ExL ExD Op1 Free RetQ MutQ Reads CellO SegO LoadsAs
theorem e_3 : Enters Try.prog 3 := Enters.of Try.func3 rfl
set_option maxHeartbeats 2000000 in
theorem w_FnWays (u : List Int) (huu : Nums 255 u) (Au : Option Addr) (cu : Nat) (hlu : u.length ≤ maxLen) (hAu : Au = none → cu = 0) (t : List Int) (hut : Nums 255 t) (At : Option Addr) (ct : Nat) (hlt : t.length ≤ maxLen) (hAt : At = none → ct = 0) : Ret Try.prog 3 [.slice Au u.length cu, .slice At t.length ct] (fun w => Rd w Au (u.flatMap (eI .u8)) ∧ Rd w At (t.flatMap (eI .u8))) (fun x : Unit => .bool true) (fun x => []) (fun x => True) := by
  refine Ret.of e_3 Try.func3 rfl Try.ntmps3 rfl rfl (fun w hpre => ?_)
  have hu := hpre.1.base
  have ht := hpre.2.base
  have hl2 : ([10, 10] : List Int).length = 2 := rfl
  have hs2 : size [10, 10] = 100 := by decide
  have hu2 := nums2
  have hm0 : maxLen = 9223372036854775807 := rfl
  refine Ex.regSeq (ExL.pures 1 rfl ?_)
  refine ExL.nil ?_
  refine Ex.seq ?_
  refine Ex.regSeq (ExL.pures 1 rfl ?_)
  refine ExL.op rfl (op_ret rfl rfl rfl (c_f6big u _ _ (by omega)) (fun _ _ => trivial) rfl rfl (fun x1 hx1 => ?_))
  refine ExL.pures 1 rfl ?_
  refine ExL.bool (d := 53) rfl (fun hb2 => ?_) (fun hb2 => ?_)
  · replace hb2 := of_decide_eq_true hb2
    refine ExL.pures 3 rfl ?_
    refine ExL.nil ?_
    refine Ex.cond_t rfl ?_
    refine Ex.regSeq (ExL.pures 1 rfl ?_)
    refine ExL.nil ?_
    refine Ex.ret ?_
    refine RetQ.mk () rfl (.tmp rfl .nil) (rfl) [] (rfl) rfl (trivial)
  · replace hb2 := of_decide_eq_false hb2
    refine ExL.pures 1 rfl ?_
    refine ExL.op rfl (op_ret rfl rfl rfl (c_f6big t _ _ (by omega)) (fun _ _ => trivial) rfl rfl (fun x3 hx3 => ?_))
    refine ExL.pures 1 rfl ?_
    refine ExL.nil ?_
    refine Ex.cond rfl (fun hb4 => ?_) (fun hb4 => ?_)
    · replace hb4 := of_decide_eq_true hb4
      refine Ex.regSeq (ExL.pures 1 rfl ?_)
      refine ExL.nil ?_
      refine Ex.ret ?_
      refine RetQ.mk () rfl (.tmp rfl .nil) (rfl) [] (rfl) rfl (trivial)
    · replace hb4 := of_decide_eq_false hb4
      refine Ex.skip ?_
      refine Ex.regSeq (ExL.pures 0 rfl ?_)
      refine ExL.op rfl (op_buildSlice (sz := 1) rfl rfl rfl rfl rfl rfl rfl rfl (by decide) rfl rfl rfl (fun r5 => ?_))
      refine ExL.pures 1 rfl ?_
      refine ExL.nil ?_
      refine Ex.regSeq (ExL.pures 0 rfl ?_)
      refine ExL.op rfl (op_buildSlice (sz := 16) rfl rfl rfl rfl rfl rfl rfl rfl (by decide) rfl rfl rfl (fun r6 => ?_))
      refine ExL.pures 1 rfl ?_
      refine ExL.nil ?_
      refine Ex.regSeq (ExL.pures 0 rfl ?_)
      refine ExL.op rfl (op_buildSlice (sz := 1) rfl rfl rfl rfl rfl rfl rfl rfl (by decide) rfl rfl rfl (fun r7 => ?_))
      refine ExL.pures 1 rfl ?_
      refine ExL.nil ?_
      refine Ex.regSeq (ExL.pures 1 rfl ?_)
      refine ExL.op rfl (op_ret rfl rfl rfl (c_P6Pick u _ _ (by omega) (by assumption) 30 (by omega)) (Reads.get (Reads.old hu)) rfl rfl (fun x8 hx8 => ?_))
      obtain ⟨kx8, hkx8⟩ : ∃ k : Nat, x8 = (k : Int) := ⟨x8.toNat, by omega⟩
      subst hkx8
      refine ExL.pures 1 rfl ?_
      refine ExL.nil ?_
      refine Ex.seq ?_
      refine Ex.regSeq (ExL.pures 1 rfl ?_)
      refine ExL.nil ?_
      refine Ex.block ?_
      refine Ex.loopK (X := WyS) (fun q => [(6, .slice q.A q.L.length q.c), (7, .slice q.A2 q.tr.length q.c2), (8, .int .i64 q.at_), (9, .int .u8 q.k)]) (fun q => [.row (.slice q.A q.L.length q.c) 32 16 q.L.length (q.L.flatMap encPh), .row (.slice q.A2 q.tr.length q.c2) 2 1 q.tr.length (q.tr.flatMap (eI .i64))]) (fun q => q.L.length = q.k ∧ q.tr.length = q.k ∧ q.k ≤ 4 ∧ PhsOk q.L ∧ In100 q.tr ∧ 0 ≤ q.at_ ∧ q.at_ ≤ 29 + 9 * (q.k : Int)) (fun q => 4 - q.k) (⟨0, ↑kx8, [], (some ⟨r6, 0, none⟩), 0, [], (some ⟨r7, 0, none⟩), 0⟩ : WyS) [(0, _), (1, _), (4, _), (5, _)] [_] 3 [1, 0, 2] ⟨rfl, rfl, rfl, rfl, trivial⟩ ⟨rfl, rfl, rfl, rfl, trivial⟩ (rfl) rfl ⟨rfl, rfl, by dsimp only; omega, PhsOk.nil, In100.nil, by dsimp only; omega, by dsimp only; omega⟩ (fun q hI => ?_)
      have hI : q.L.length = q.k ∧ q.tr.length = q.k ∧ q.k ≤ 4 ∧ PhsOk q.L ∧ In100 q.tr ∧ 0 ≤ q.at_ ∧ q.at_ ≤ 29 + 9 * (q.k : Int) := hI
      obtain ⟨hLl, hTl, hk4, hP, hT, hat1, hat2⟩ := hI
      refine Ex.seq ?_
      refine Ex.regSeq (ExL.pures 1 rfl ?_)
      refine ExL.lss rfl rfl rfl rfl rfl rfl (fun h9 => ?_) (fun h9 => ?_)
      · refine ExL.nil ?_
        refine Ex.cond_t rfl ?_
        refine Ex.skip ?_
        refine Ex.seq ?_
        refine Ex.block ?_
        obtain ⟨z, hz⟩ : ∃ z : Int, ((q.k : Nat) : Int) = z := ⟨_, rfl⟩
        rw [hz]
        have hz9 : 0 ≤ z ∧ z ≤ 255 := by omega
        have hlu : (z :: u).length = u.length + 1 := rfl
        have hlt9 : (z :: t).length = t.length + 1 := rfl
        refine Ex.regSeq (ExL.pures 2 rfl ?_)
        refine ExL.op rfl (op_buildSlice (sz := 1) rfl rfl rfl rfl rfl rfl rfl rfl (by decide) rfl rfl rfl (fun r10 => ?_))
        refine ExL.op rfl (op_append (sz := 1) (bytes := 8) (i := 2) rfl rfl rfl rfl (Reads.row (i := 0) rfl) rfl (fun e => by first | (cases e; done) | (subst e; first | exact ⟨by have h9 := fun h => hu.isSome (A := none) h; rcases Nat.eq_zero_or_pos u.length with h | h; exact h; exact absurd (h9 (by rw [flat_len (eI_len .u8)]; omega)) (by simp), hAu rfl⟩ | exact ⟨by have h9 := fun h => ht.isSome (A := none) h; rcases Nat.eq_zero_or_pos t.length with h | h; exact h; exact absurd (h9 (by rw [flat_len (eI_len .u8)]; omega)) (by simp), hAt rfl⟩)) rfl rfl rfl rfl (by constructor <;> first | omega | (unfold maxLen; omega)) rfl rfl (fun A11 cA11 => ?_))
        refine ExL.pures 1 rfl ?_
        refine ExL.nil ?_
        refine Ex.regSeq (ExL.pures 2 rfl ?_)
        refine ExL.op rfl (op_buildSlice (sz := 1) rfl rfl rfl rfl rfl rfl rfl rfl (by decide) rfl rfl rfl (fun r13 => ?_))
        refine ExL.pures 1 rfl ?_
        refine ExL.op rfl (op_append (sz := 1) (bytes := 1) (i := 0) rfl rfl rfl rfl (Reads.old ht) (flat_len (eI_len .u8) _) (fun e => by first | (cases e; done) | (subst e; first | exact ⟨by have h9 := fun h => hu.isSome (A := none) h; rcases Nat.eq_zero_or_pos u.length with h | h; exact h; exact absurd (h9 (by rw [flat_len (eI_len .u8)]; omega)) (by simp), hAu rfl⟩ | exact ⟨by have h9 := fun h => ht.isSome (A := none) h; rcases Nat.eq_zero_or_pos t.length with h | h; exact h; exact absurd (h9 (by rw [flat_len (eI_len .u8)]; omega)) (by simp), hAt rfl⟩)) (all_flat (fun _ => rfl) _) rfl rfl rfl (by constructor <;> first | omega | (unfold maxLen; omega)) rfl rfl (fun A14 cA14 => ?_))
        rw [Nat.add_comm 1 t.length]
        refine ExL.pures 2 rfl ?_
        refine ExL.op rfl (op_ret rfl rfl rfl (c_P6Photo (z :: t) _ _ (by omega) (nums_cons hz9 (by assumption)) [10, 10] (by first | assumption | exact valid2) _ _ (by first | assumption | exact nums2) q.at_ (by omega)) (fun w hw => ⟨Reads.get (Reads.row (i := 0) rfl) w hw, Reads.get (Reads.row (i := 4) rfl) w hw⟩) rfl rfl (fun x16 hx16 => ?_))
        refine ExL.op rfl (op_buildSlice (sz := 16) rfl rfl rfl rfl rfl rfl rfl rfl (by decide) rfl rfl rfl (fun r17 => ?_))
        refine ExL.op rfl (op_append (sz := 16) (bytes := 128) (i := 3) rfl rfl rfl rfl (Reads.row (i := 0) rfl) rfl (fun e => by first | (cases e; done) | (subst e; first | exact ⟨by have h9 := fun h => hu.isSome (A := none) h; rcases Nat.eq_zero_or_pos u.length with h | h; exact h; exact absurd (h9 (by rw [flat_len (eI_len .u8)]; omega)) (by simp), hAu rfl⟩ | exact ⟨by have h9 := fun h => ht.isSome (A := none) h; rcases Nat.eq_zero_or_pos t.length with h | h; exact h; exact absurd (h9 (by rw [flat_len (eI_len .u8)]; omega)) (by simp), hAt rfl⟩)) rfl rfl rfl rfl (by constructor <;> first | omega | (unfold maxLen; omega)) rfl rfl (fun A18 cA18 => ?_))
        refine ExL.pures 1 rfl ?_
        refine ExL.nil ?_
        refine Ex.region (ExL.pures 2 rfl ?_)
        refine ExL.op rfl (op_buildSlice (sz := 1) rfl rfl rfl rfl rfl rfl rfl rfl (by decide) rfl rfl rfl (fun r20 => ?_))
        refine ExL.pures 1 rfl ?_
        refine ExL.op rfl (op_append (sz := 1) (bytes := 1) (i := 0) rfl rfl rfl rfl (Reads.old hu) (flat_len (eI_len .u8) _) (fun e => by first | (cases e; done) | (subst e; first | exact ⟨by have h9 := fun h => hu.isSome (A := none) h; rcases Nat.eq_zero_or_pos u.length with h | h; exact h; exact absurd (h9 (by rw [flat_len (eI_len .u8)]; omega)) (by simp), hAu rfl⟩ | exact ⟨by have h9 := fun h => ht.isSome (A := none) h; rcases Nat.eq_zero_or_pos t.length with h | h; exact h; exact absurd (h9 (by rw [flat_len (eI_len .u8)]; omega)) (by simp), hAt rfl⟩)) (all_flat (fun _ => rfl) _) rfl rfl rfl (by constructor <;> first | omega | (unfold maxLen; omega)) rfl rfl (fun A21 cA21 => ?_))
        rw [Nat.add_comm 1 u.length]
        refine ExL.op rfl (op_ret rfl rfl rfl (c_P6Pick (z :: u) _ _ (by omega) (nums_cons hz9 (by assumption)) 10 (by omega)) (Reads.get (Reads.row (i := 0) rfl)) rfl rfl (fun x23 hx23 => ?_))
        obtain ⟨kx23, hkx23⟩ : ∃ k : Nat, x23 = (k : Int) := ⟨x23.toNat, by omega⟩
        subst hkx23
        refine ExL.free (by first | exact fr_add64 rfl rfl rfl (by omega) | exact fr_add rfl rfl rfl) rfl rfl rfl ?_
        refine ExL.pures 1 rfl ?_
        refine ExL.nil ?_
        refine Ex.region (ExL.pures 1 rfl ?_)
        refine ExL.free (fr_add rfl rfl rfl) rfl rfl rfl ?_
        refine ExL.pures 1 rfl ?_
        refine ExL.nil ?_
        refine Hand.mk (⟨q.k + 1, (q.at_ + ↑kx23), q.L ++ [x16], A18, cA18, q.tr ++ [q.at_], A11, cA11⟩ : WyS) 7 [4, 5, 6] ⟨(by rw [List.length_append]; rfl), (by rw [List.length_append]; rfl), rfl, agI (by rw [wrap_u8_mod]; push_cast; omega), trivial⟩ ⟨rfl, rfl, rfl, rfl, trivial⟩ (by rw [List.length_append, List.flatMap_append, List.length_append, List.flatMap_append]; rfl) rfl (⟨by dsimp only; rw [List.length_append, List.length_singleton]; omega, by dsimp only; rw [List.length_append, List.length_singleton]; omega, by dsimp only; omega, hP.snoc hx16.1 hx16.2.1, hT.snoc (by omega), by dsimp only; omega, by dsimp only; push_cast; omega⟩) (by dsimp only; omega)
      · refine ExL.nil ?_
        refine Ex.cond_f rfl ?_
        refine Ex.exit ?_
        have hk9 : q.k = 4 := by omega
        have hLo : ∀ k, k < q.L.length → OkPh (q.L.getD k zPh) := fun k hk => (hP k hk).1
        have hLL : q.L.length = 4 := by omega
        have hTT : q.tr.length = 4 := by omega
        refine Ex.regSeq (ExL.pures 1 rfl ?_)
        refine ExL.op rfl (op_ret rfl rfl rfl (c_P6Pick t _ _ (by omega) (by assumption) 9 (by omega)) (Reads.get (Reads.old ht)) rfl rfl (fun x24 hx24 => ?_))
        obtain ⟨kx24, hkx24⟩ : ∃ k : Nat, x24 = (k : Int) := ⟨x24.toNat, by omega⟩
        subst hkx24
        refine ExL.free (by first | exact fr_add64 rfl rfl rfl (by omega) | exact fr_add rfl rfl rfl) rfl rfl rfl ?_
        refine ExL.pures 1 rfl ?_
        refine ExL.nil ?_
        obtain ⟨hi, hhi⟩ : ∃ z : Int, (3 + ((kx24 : Nat) : Int)) = z := ⟨_, rfl⟩
        rw [hhi]
        refine Ex.regSeq (ExL.pures 2 rfl ?_)
        refine ExL.free (by first | exact fr_add64 rfl rfl rfl (by omega) | exact fr_add rfl rfl rfl) rfl rfl rfl ?_
        refine ExL.op rfl (op_ret rfl rfl rfl (c_P6Pick u _ _ (by omega) (by assumption) (hi + 1) (by omega)) (Reads.get (Reads.old hu)) rfl rfl (fun x25 hx25 => ?_))
        obtain ⟨kx25, hkx25⟩ : ∃ k : Nat, x25 = (k : Int) := ⟨x25.toNat, by omega⟩
        subst hkx25
        refine ExL.pures 1 rfl ?_
        refine ExL.nil ?_
        refine Ex.know (row_blk (i := 0) rfl (by omega)) (fun ⟨g6, hg6⟩ => ?_)
        rw [hg6]
        obtain ⟨us, hus⟩ : ∃ z : Int, ((kx25 : Nat) : Int) = z := ⟨_, rfl⟩
        rw [hus]
        have hW := wlaw (L := q.L) (most := hi) (us := us) (tr := q.tr) hP ⟨by omega, by omega⟩ ⟨by omega, by omega⟩ ⟨by omega, by omega⟩ (by omega)
        have hw2 : (waysV [10, 10] q.L 0 hi).2 = 0 := by rw [hW.ways]
        have hsle := sure_le (s := [10, 10]) (L := q.L) (lo := 0) (hi := hi)
        have hlle := lk_len (s := [10, 10]) (L := q.L) (lo := 0) (hi := hi) (us := us)
        refine Ex.regSeq (ExL.pures 3 rfl ?_)
        refine ExL.op rfl (op_ret rfl rfl rfl (c_iWays [10, 10] (by first | assumption | exact nums2) _ _ (by omega) q.L (by assumption) _ _ (by omega) 0 hi) (fun w hw => ⟨Reads.get (Reads.row (i := 2) rfl) w hw, Reads.get (Reads.row (i := 0) rfl) w hw⟩) rfl rfl (fun x26 hx26 => ?_))
        refine ExL.pures 5 rfl ?_
        refine ExL.nil ?_
        refine Ex.regSeq (ExL.pures 3 rfl ?_)
        refine ExL.op rfl (op_ret rfl rfl rfl (c_sWays [10, 10] (by first | assumption | exact nums2) _ _ (by omega) q.L (by assumption) _ _ (by omega) 0 hi) (fun w hw => ⟨Reads.get (Reads.row (i := 2) rfl) w hw, Reads.get (Reads.row (i := 0) rfl) w hw⟩) rfl rfl (fun x27 hx27 => ?_))
        refine ExL.pures 5 rfl ?_
        refine ExL.nil ?_
        refine Ex.regSeq (ExL.pures 3 rfl ?_)
        refine ExL.op rfl (op_ret rfl rfl rfl (c_iStuck [10, 10] (by first | assumption | exact nums2) _ _ (by omega) q.L (by assumption) _ _ (by omega) 0 hi) (fun w hw => ⟨Reads.get (Reads.row (i := 2) rfl) w hw, Reads.get (Reads.row (i := 0) rfl) w hw⟩) rfl rfl (fun x28 hx28 => ?_))
        refine ExL.pures 5 rfl ?_
        refine ExL.nil ?_
        refine Ex.regSeq (ExL.pures 3 rfl ?_)
        refine ExL.op rfl (op_ret rfl rfl rfl (c_sStuck [10, 10] (by first | assumption | exact nums2) _ _ (by omega) q.L (by assumption) _ _ (by omega) 0 hi) (fun w hw => ⟨Reads.get (Reads.row (i := 2) rfl) w hw, Reads.get (Reads.row (i := 0) rfl) w hw⟩) rfl rfl (fun x29 hx29 => ?_))
        refine ExL.pures 5 rfl ?_
        refine ExL.nil ?_
        refine Ex.regSeq (ExL.pures 4 rfl ?_)
        refine ExL.op rfl (op_ret rfl rfl rfl (c_iLik [10, 10] (by first | assumption | exact nums2) _ _ (by omega) q.L (by assumption) _ _ (by omega) 0 hi us) (fun w hw => ⟨Reads.get (Reads.row (i := 2) rfl) w hw, Reads.get (Reads.row (i := 0) rfl) w hw⟩) rfl rfl (fun x30 hx30 => ?_))
        refine ExL.pures 7 rfl ?_
        refine ExL.nil ?_
        refine Ex.regSeq (ExL.pures 4 rfl ?_)
        refine ExL.op rfl (op_ret rfl rfl rfl (c_sLik [10, 10] (by first | assumption | exact nums2) _ _ (by omega) q.L (by assumption) _ _ (by omega) 0 hi us) (fun w hw => ⟨Reads.get (Reads.row (i := 3) rfl) w hw, Reads.get (Reads.row (i := 1) rfl) w hw⟩) rfl rfl (fun x31 hx31 => ?_))
        refine ExL.pures 7 rfl ?_
        refine ExL.nil ?_
        refine Ex.regSeq (ExL.pures 3 rfl ?_)
        refine ExL.op rfl (op_ret rfl rfl rfl (c_iSure [10, 10] (by first | assumption | exact nums2) _ _ (by omega) q.L (by assumption) _ _ (by omega) 0 hi) (fun w hw => ⟨Reads.get (Reads.row (i := 4) rfl) w hw, Reads.get (Reads.row (i := 2) rfl) w hw⟩) rfl rfl (fun x32 hx32 => ?_))
        refine ExL.pures 5 rfl ?_
        refine ExL.nil ?_
        refine Ex.regSeq (ExL.pures 3 rfl ?_)
        refine ExL.op rfl (op_ret rfl rfl rfl (c_sSure [10, 10] (by first | assumption | exact nums2) _ _ (by omega) q.L (by assumption) _ _ (by omega) 0 hi) (fun w hw => ⟨Reads.get (Reads.row (i := 5) rfl) w hw, Reads.get (Reads.row (i := 3) rfl) w hw⟩) rfl rfl (fun x33 hx33 => ?_))
        refine ExL.pures 5 rfl ?_
        refine ExL.nil ?_
        refine Ex.seq ?_
        refine Ex.regSeq (ExL.pures 2 rfl ?_)
        refine ExL.free (fr_neq_f rfl rfl rfl (fun h => h rfl)) rfl rfl rfl ?_
        refine ExL.pures 2 rfl ?_
        refine ExL.free (fr_neq_f rfl rfl rfl (by rw [hw2]; exact fun h => h rfl)) rfl rfl rfl ?_
        refine ExL.pures 4 rfl ?_
        refine ExL.free (fr_neq_f rfl rfl rfl (fun h => h rfl)) rfl rfl rfl ?_
        refine ExL.pures 4 rfl ?_
        refine ExL.free (fr_neq_f rfl rfl rfl (fun h => h rfl)) rfl rfl rfl ?_
        refine ExL.pures 4 rfl ?_
        refine ExL.free (fr_neq_f rfl rfl rfl (fun h => h rfl)) rfl rfl rfl ?_
        refine ExL.pures 4 rfl ?_
        refine ExL.free (fr_neq_f rfl rfl rfl (fun h => h rfl)) rfl rfl rfl ?_
        refine ExL.pures 4 rfl ?_
        refine ExL.op rfl (op_ret rfl rfl rfl (c_SameNumbers ((likV [10, 10] q.L 0 hi us).1) _ _ (by omega) _ _) (fun w hw => ⟨Reads.get (Reads.row (i := 3) rfl) w hw, Reads.get (Reads.row (i := 2) rfl) w hw⟩) rfl rfl (fun x34 hx34 => ?_))
        refine ExL.pures 5 rfl ?_
        refine ExL.free (fr_neq_f rfl rfl rfl (fun h => h rfl)) rfl rfl rfl ?_
        refine ExL.pures 4 rfl ?_
        refine ExL.free (fr_neq_f rfl rfl rfl (fun h => h rfl)) rfl rfl rfl ?_
        refine ExL.pures 4 rfl ?_
        refine ExL.op rfl (op_ret rfl rfl rfl (c_SamePhotos (sureV [10, 10] q.L 0 hi).1 _ _ (by omega) _ _) (fun w hw => ⟨Reads.get (Reads.row (i := 1) rfl) w hw, Reads.get (Reads.row (i := 0) rfl) w hw⟩) rfl rfl (fun x35 hx35 => ?_))
        refine ExL.pures 4 rfl ?_
        refine ExL.eql rfl rfl rfl rfl rfl rfl (fun h36 => ?_) (fun h36 => ?_)
        · refine ExL.pures 1 rfl ?_
          refine ExL.free (fr_eql_t rfl rfl rfl ((hW.stuck).1 (by assumption))) rfl rfl rfl ?_
          refine ExL.free (fr_neq_bool rfl rfl rfl rfl) rfl rfl rfl ?_
          refine ExL.pures 3 rfl ?_
          refine ExL.free (fr_eql_t rfl rfl rfl (by assumption)) rfl rfl rfl ?_
          refine ExL.pures 1 rfl ?_
          refine ExL.free (fr_eql_t rfl rfl rfl ((hW.lik).1 (by assumption))) rfl rfl rfl ?_
          refine ExL.free (fr_neq_bool rfl rfl rfl rfl) rfl rfl rfl ?_
          refine ExL.pures 3 rfl ?_
          refine ExL.free (fr_eql_t rfl rfl rfl (by assumption)) rfl rfl rfl ?_
          refine ExL.pures 1 rfl ?_
          refine ExL.free (fr_eql_t rfl rfl rfl ((hW.sure).1 (by assumption))) rfl rfl rfl ?_
          refine ExL.free (fr_neq_bool rfl rfl rfl rfl) rfl rfl rfl ?_
          refine ExL.pures 1 rfl ?_
          refine ExL.nil ?_
          refine Ex.cond_f rfl ?_
          refine Ex.skip ?_
          refine Ex.regSeq (ExL.pures 4 rfl ?_)
          refine ExL.op rfl (op_ret rfl rfl rfl (c_iCheck [10, 10] (by first | assumption | exact nums2) _ _ (by omega) q.L (by assumption) _ _ (by omega) 0 hi q.tr _ _ (by omega)) (fun w hw => ⟨Reads.get (Reads.row (i := 6) rfl) w hw, Reads.get (Reads.row (i := 4) rfl) w hw, Reads.get (Reads.row (i := 5) rfl) w hw⟩) rfl rfl (fun x37 hx37 => ?_))
          refine ExL.pures 5 rfl ?_
          refine ExL.nil ?_
          refine Ex.regSeq (ExL.pures 4 rfl ?_)
          refine ExL.op rfl (op_ret rfl rfl rfl (c_sCheck [10, 10] (by first | assumption | exact nums2) _ _ (by omega) q.L (by assumption) _ _ (by omega) 0 hi q.tr _ _ (by omega)) (fun w hw => ⟨Reads.get (Reads.row (i := 6) rfl) w hw, Reads.get (Reads.row (i := 4) rfl) w hw, Reads.get (Reads.row (i := 5) rfl) w hw⟩) rfl rfl (fun x38 hx38 => ?_))
          refine ExL.pures 5 rfl ?_
          refine ExL.nil ?_
          refine Ex.seq ?_
          refine Ex.regSeq (ExL.pures 2 rfl ?_)
          refine ExL.free (fr_neq_f rfl rfl rfl (fun h => h rfl)) rfl rfl rfl ?_
          refine ExL.pures 2 rfl ?_
          refine ExL.free (fr_neq_f rfl rfl rfl (by rw [hW.ck]; exact fun h => h rfl)) rfl rfl rfl ?_
          refine ExL.pures 4 rfl ?_
          refine ExL.free (fr_neq_bool_same rfl rfl rfl rfl) rfl rfl rfl ?_
          refine ExL.pures 4 rfl ?_
          refine ExL.bool (d := 254) rfl (fun hb39 => ?_) (fun hb39 => ?_)
          · refine ExL.pures 1 rfl ?_
            refine ExL.free (fr_eql_f rfl rfl rfl (hW.good (by assumption))) rfl rfl rfl ?_
            refine ExL.pures 2 rfl ?_
            refine ExL.nil ?_
            refine Ex.cond_f rfl ?_
            refine Ex.skip ?_
            refine Ex.seq ?_
            refine Ex.regSeq (ExL.pures 1 rfl ?_)
            refine ExL.free (fr_eql_t rfl rfl rfl (by assumption)) rfl rfl rfl ?_
            refine ExL.nil ?_
            refine Ex.cond_t rfl ?_
            refine Ex.regSeq (ExL.pures 1 rfl ?_)
            refine ExL.free (fr_eql_t rfl rfl rfl (hW.lik.1 (by assumption))) rfl rfl rfl ?_
            refine ExL.pures 1 rfl ?_
            refine ExL.nil ?_
            refine Ex.ret ?_
            refine RetQ.mk () rfl (.tmp rfl .nil) (rfl) [] (rfl) rfl (trivial)
          · refine ExL.pures 4 rfl ?_
            refine ExL.nil ?_
            refine Ex.cond_f rfl ?_
            refine Ex.skip ?_
            refine Ex.seq ?_
            refine Ex.regSeq (ExL.pures 1 rfl ?_)
            refine ExL.free (fr_eql_t rfl rfl rfl (by assumption)) rfl rfl rfl ?_
            refine ExL.nil ?_
            refine Ex.cond_t rfl ?_
            refine Ex.regSeq (ExL.pures 1 rfl ?_)
            refine ExL.free (fr_eql_t rfl rfl rfl (hW.lik.1 (by assumption))) rfl rfl rfl ?_
            refine ExL.pures 1 rfl ?_
            refine ExL.nil ?_
            refine Ex.ret ?_
            refine RetQ.mk () rfl (.tmp rfl .nil) (rfl) [] (rfl) rfl (trivial)
        · refine ExL.pures 1 rfl ?_
          refine ExL.free (fr_eql_f rfl rfl rfl (fun h9 => absurd ((hW.stuck).2 h9) (by assumption))) rfl rfl rfl ?_
          refine ExL.free (fr_neq_bool rfl rfl rfl rfl) rfl rfl rfl ?_
          refine ExL.pures 3 rfl ?_
          refine ExL.free (fr_eql_f rfl rfl rfl (by assumption)) rfl rfl rfl ?_
          refine ExL.pures 1 rfl ?_
          refine ExL.free (fr_eql_f rfl rfl rfl (fun h9 => absurd ((hW.lik).2 h9) (by assumption))) rfl rfl rfl ?_
          refine ExL.free (fr_neq_bool rfl rfl rfl rfl) rfl rfl rfl ?_
          refine ExL.pures 3 rfl ?_
          refine ExL.free (fr_eql_f rfl rfl rfl (by assumption)) rfl rfl rfl ?_
          refine ExL.pures 1 rfl ?_
          refine ExL.free (fr_eql_f rfl rfl rfl (fun h9 => absurd ((hW.sure).2 h9) (by assumption))) rfl rfl rfl ?_
          refine ExL.free (fr_neq_bool rfl rfl rfl rfl) rfl rfl rfl ?_
          refine ExL.pures 1 rfl ?_
          refine ExL.nil ?_
          refine Ex.cond_f rfl ?_
          refine Ex.skip ?_
          refine Ex.regSeq (ExL.pures 4 rfl ?_)
          refine ExL.op rfl (op_ret rfl rfl rfl (c_iCheck [10, 10] (by first | assumption | exact nums2) _ _ (by omega) q.L (by assumption) _ _ (by omega) 0 hi q.tr _ _ (by omega)) (fun w hw => ⟨Reads.get (Reads.row (i := 6) rfl) w hw, Reads.get (Reads.row (i := 4) rfl) w hw, Reads.get (Reads.row (i := 5) rfl) w hw⟩) rfl rfl (fun x40 hx40 => ?_))
          refine ExL.pures 5 rfl ?_
          refine ExL.nil ?_
          refine Ex.regSeq (ExL.pures 4 rfl ?_)
          refine ExL.op rfl (op_ret rfl rfl rfl (c_sCheck [10, 10] (by first | assumption | exact nums2) _ _ (by omega) q.L (by assumption) _ _ (by omega) 0 hi q.tr _ _ (by omega)) (fun w hw => ⟨Reads.get (Reads.row (i := 6) rfl) w hw, Reads.get (Reads.row (i := 4) rfl) w hw, Reads.get (Reads.row (i := 5) rfl) w hw⟩) rfl rfl (fun x41 hx41 => ?_))
          refine ExL.pures 5 rfl ?_
          refine ExL.nil ?_
          refine Ex.seq ?_
          refine Ex.regSeq (ExL.pures 2 rfl ?_)
          refine ExL.free (fr_neq_f rfl rfl rfl (fun h => h rfl)) rfl rfl rfl ?_
          refine ExL.pures 2 rfl ?_
          refine ExL.free (fr_neq_f rfl rfl rfl (by rw [hW.ck]; exact fun h => h rfl)) rfl rfl rfl ?_
          refine ExL.pures 4 rfl ?_
          refine ExL.free (fr_neq_bool_same rfl rfl rfl rfl) rfl rfl rfl ?_
          refine ExL.pures 4 rfl ?_
          refine ExL.bool (d := 254) rfl (fun hb42 => ?_) (fun hb42 => ?_)
          · refine ExL.pures 1 rfl ?_
            refine ExL.free (fr_eql_f rfl rfl rfl (hW.good (by assumption))) rfl rfl rfl ?_
            refine ExL.pures 2 rfl ?_
            refine ExL.nil ?_
            refine Ex.cond_f rfl ?_
            refine Ex.skip ?_
            refine Ex.seq ?_
            refine Ex.regSeq (ExL.pures 1 rfl ?_)
            refine ExL.free (fr_eql_f rfl rfl rfl (by assumption)) rfl rfl rfl ?_
            refine ExL.nil ?_
            refine Ex.cond_f rfl ?_
            refine Ex.skip ?_
            refine Ex.regSeq (ExL.pures 4 rfl ?_)
            refine ExL.op rfl (op_ret rfl rfl rfl (c_iCheck [10, 10] (by first | assumption | exact nums2) _ _ (by omega) q.L (by assumption) _ _ (by omega) 0 hi ((likV [10, 10] q.L 0 hi us).1) _ _ (by omega)) (fun w hw => ⟨Reads.get (Reads.row (i := 6) rfl) w hw, Reads.get (Reads.row (i := 4) rfl) w hw, Reads.get (Reads.row (i := 2) rfl) w hw⟩) rfl rfl (fun x43 hx43 => ?_))
            refine ExL.pures 5 rfl ?_
            refine ExL.nil ?_
            refine Ex.seq ?_
            have hne : (waysV [10, 10] q.L 0 hi).1 ≠ 0 := by assumption
            have hbk := hW.best hne
            rw [hbk]
            have hml := (hW.len hne).1
            refine Ex.know (row_blk (i := 0) rfl (by omega)) (fun ⟨g28, hg28⟩ => ?_)
            rw [hg28]
            have hbl := (hW.len hne).2
            have hMs := hW.phs hne
            have hMo : ∀ k, k < (sureV [10, 10] q.L 0 hi).1.length → OkPh ((sureV [10, 10] q.L 0 hi).1.getD k zPh) := fun k hk => (hMs k hk).1
            have hin9 : In100 (likV [10, 10] q.L 0 hi us).1 := fun i hi9 => (hW.bin hne i (by omega)).1
            refine Ex.regSeq (ExL.pures 1 rfl ?_)
            refine ExL.free (fr_neq_f rfl rfl rfl (fun h => h rfl)) rfl rfl rfl ?_
            refine ExL.pures 9 rfl ?_
            refine ExL.free (fr_neq_f rfl rfl rfl (by omega)) rfl rfl rfl ?_
            refine ExL.pures 1 rfl ?_
            refine ExL.nil ?_
            refine Ex.cond_f rfl ?_
            refine Ex.skip ?_
            refine Ex.regSeq (ExL.pures 1 rfl ?_)
            refine ExL.nil ?_
            refine Ex.regSeq (ExL.pures 1 rfl ?_)
            refine ExL.nil ?_
            refine Ex.seq ?_
            refine Ex.regSeq (ExL.pures 1 rfl ?_)
            refine ExL.nil ?_
            refine Ex.block ?_
            refine Ex.loopK (X := Nat) (fun k => [(36, .int .i64 (ownL us (likV [10, 10] q.L 0 hi us).1 k)), (37, .int .i64 (ownL us q.tr k)), (38, .int .i64 k)]) (fun k => []) (fun k => k ≤ q.L.length) (fun k => q.L.length - k) 0 [(5, _), (6, _), (7, _), (10, _), (11, _), (14, _), (23, _), (24, _), (28, _), (30, _)] [_, _, _, _, _] 7 [0, 2, 4, 5, 6] ⟨rfl, rfl, rfl, trivial⟩ ⟨rfl, rfl, rfl, rfl, rfl, rfl, rfl, rfl, rfl, rfl, trivial⟩ (rfl) rfl (Nat.zero_le _) (fun k hI => ?_)
            have hI : k ≤ q.L.length := hI
            refine Ex.seq ?_
            refine Ex.regSeq (ExL.pures 3 rfl ?_)
            refine ExL.lss rfl rfl rfl rfl rfl rfl (fun h44 => ?_) (fun h44 => ?_)
            · refine ExL.nil ?_
              refine Ex.cond_t rfl ?_
              refine Ex.skip ?_
              refine Ex.seq ?_
              refine Ex.block ?_
              have hkl : k < q.L.length := by omega
              have hbin := hW.bin hne k hkl
              have htk := hT k (by omega)
              have hob1 := own_bd hin9 (us := us) (by omega) k (by omega)
              have hob2 := own_bd hT (us := us) (by omega) k (by omega)
              have hn1 : Nums 255 (dig (digs [10, 10] ((likV [10, 10] q.L 0 hi us).1.getD k 0))).l := by rw [dig_l (digs_len _ _)]; exact digs_num stk2.bases
              have hn2 : Nums 255 (dig (digs [10, 10] (q.tr.getD k 0))).l := by rw [dig_l (digs_len _ _)]; exact digs_num stk2.bases
              have hbk1 := fun (h : 0 < k) => hin9 (k - 1) (by omega)
              have htk1 := fun (h : 0 < k) => hT (k - 1) (by omega)
              have hMk := (hMs k (by omega)).1
              have hs2 : size [10, 10] = 100 := by decide
              refine Ex.regSeq (ExL.pures 3 rfl ?_)
              refine ExL.free (fr_indexAddrR (sz := 1) 1 rfl rfl rfl rfl rfl rfl (by omega)) rfl rfl rfl ?_
              refine ExL.free (fr_load rfl rfl rfl rfl (cellJ (i := ↑k) (k) (Reads.row (i := 1) rfl) (eI_len .i64) 0 0 rfl (by omega) (by omega) rfl)) rfl rfl rfl ?_
              refine ExL.op rfl (op_ret rfl rfl rfl (c_DigitsOf [10, 10] (by first | assumption | exact valid2) (by first | assumption | exact nums2) _ _ ((likV [10, 10] q.L 0 hi us).1.getD k 0) (by omega)) (Reads.get (Reads.row (i := 4) rfl)) rfl rfl (fun x45 hx45 => ?_))
              refine ExL.pures 3 rfl ?_
              refine ExL.op rfl (op_alloc rfl rfl rfl rfl rfl (fun b46 => ?_))
              refine ExL.op rfl (op_storeC (i := 0) rfl rfl rfl rfl rfl rfl rfl rfl rfl rfl ?_)
              refine ExL.pures 1 rfl ?_
              refine ExL.nil ?_
              refine Ex.drawSeqM rfl ?_
              refine ExD.take (i := 0) rfl (by kernel_rfl) (pureVal_ok rfl) ((List.Sublist.refl _)) rfl rfl rfl ?_
              refine ExD.take (i := 1) rfl (by kernel_rfl) (pureVal_ok rfl) ((List.Sublist.refl _)) rfl rfl rfl ?_
              refine ExD.take (i := 2) rfl (by kernel_rfl) (pureVal_ok rfl) ((List.Sublist.refl _)) rfl rfl rfl ?_
              refine ExD.take (i := 3) rfl (by kernel_rfl) (fr_indexAddrR (sz := 16) 1 rfl rfl rfl rfl rfl rfl (by omega)) ((List.Sublist.refl _)) rfl rfl rfl ?_
              refine ExD.take (i := 4) rfl (by kernel_rfl) (fr_loadN rfl rfl rfl rfl rfl (segJ (k) (Reads.row (i := 1) rfl) encPh_len rfl zPh (by omega) (by omega))) ((List.Sublist.refl _)) rfl rfl rfl ?_
              refine ExD.take (i := 5) rfl (by kernel_rfl) (fr_loadN rfl rfl rfl rfl rfl (SegO.whole (i := 0) rfl)) ((List.Sublist.refl _)) rfl rfl rfl ?_
              refine ExD.op (i := 6) rfl (by kernel_rfl) rfl (op_ret rfl rfl rfl (c_iShows [10, 10] (by assumption) _ _ (by omega) ((sureV [10, 10] q.L 0 hi).1.getD k zPh) hMk (dig (digs [10, 10] ((likV [10, 10] q.L 0 hi us).1.getD k 0))) (by assumption)) (Reads.get (Reads.row (i := 5) rfl)) rfl rfl (fun x47 hx47 => ⟨(List.Sublist.refl _), ?_⟩))
              refine ExD.take (i := 7) rfl (by kernel_rfl) (pureVal_ok rfl) ((List.Sublist.refl _)) rfl rfl rfl ?_
              refine ExD.take (i := 8) rfl (by kernel_rfl) (pureVal_ok rfl) ((List.Sublist.refl _)) rfl rfl rfl ?_
              refine ExD.take (i := 9) rfl (by kernel_rfl) (pureVal_ok rfl) ((List.Sublist.refl _)) rfl rfl rfl ?_
              refine ExD.take (i := 10) rfl (by kernel_rfl) (pureVal_ok rfl) ((List.Sublist.refl _)) rfl rfl rfl ?_
              refine ExD.take (i := 11) rfl (by kernel_rfl) (pureVal_ok rfl) ((List.Sublist.refl _)) rfl rfl rfl ?_
              refine ExD.done (by kernel_rfl) ?_
              rw [hbin.2]
              refine Ex.regSeq (ExL.pures 3 rfl ?_)
              refine ExL.free (fr_indexAddrR (sz := 1) 4 rfl rfl rfl rfl rfl rfl (by omega)) rfl rfl rfl ?_
              refine ExL.free (fr_load rfl rfl rfl rfl (cellJ (i := ↑k) (k) (Reads.row (i := 4) rfl) (eI_len .i64) 0 0 rfl (by omega) (by omega) rfl)) rfl rfl rfl ?_
              refine ExL.op rfl (op_ret rfl rfl rfl (c_DigitsOf [10, 10] (by first | assumption | exact valid2) (by first | assumption | exact nums2) _ _ (q.tr.getD k 0) (by omega)) (Reads.get (Reads.row (i := 5) rfl)) rfl rfl (fun x48 hx48 => ?_))
              refine ExL.pures 3 rfl ?_
              refine ExL.op rfl (op_alloc rfl rfl rfl rfl rfl (fun b49 => ?_))
              refine ExL.op rfl (op_storeC (i := 0) rfl rfl rfl rfl rfl rfl rfl rfl rfl rfl ?_)
              refine ExL.pures 1 rfl ?_
              refine ExL.nil ?_
              refine Ex.seq ?_
              refine Ex.regSeq (ExL.pures 1 rfl ?_)
              refine ExL.free (fr_neq_f rfl rfl rfl (fun h => h rfl)) rfl rfl rfl ?_
              refine ExL.pures 2 rfl ?_
              refine ExL.free (fr_neq_f rfl rfl rfl (fun h => h rfl)) rfl rfl rfl ?_
              refine ExL.pures 7 rfl ?_
              refine ExL.free (fr_neq_f rfl rfl rfl (fun h => h rfl)) rfl rfl rfl ?_
              refine ExL.pures 1 rfl ?_
              refine ExL.nil ?_
              refine Ex.cond_f rfl ?_
              refine Ex.skip ?_
              refine Ex.seq ?_
              refine Ex.regSeq (ExL.pures 1 rfl ?_)
              refine ExL.nil ?_
              refine Ex.cond rfl (fun hb50 => ?_) (fun hb50 => ?_)
              · refine Ex.drawSeqM rfl ?_
                refine ExD.take (i := 0) rfl (by kernel_rfl) (pureVal_ok rfl) ((List.Sublist.refl _)) rfl rfl rfl ?_
                refine ExD.take (i := 1) rfl (by kernel_rfl) (pureVal_ok rfl) ((List.Sublist.refl _)) rfl rfl rfl ?_
                refine ExD.take (i := 2) rfl (by kernel_rfl) (pureVal_ok rfl) ((List.Sublist.refl _)) rfl rfl rfl ?_
                refine ExD.take (i := 3) rfl (by kernel_rfl) (fr_indexAddrR (sz := 16) 2 rfl rfl rfl rfl rfl rfl (by omega)) ((List.Sublist.refl _)) rfl rfl rfl ?_
                refine ExD.take (i := 4) rfl (by kernel_rfl) (fr_loadN rfl rfl rfl rfl rfl (segJ (k) (Reads.row (i := 2) rfl) encPh_len rfl zPh (by omega) (by omega))) ((List.Sublist.refl _)) rfl rfl rfl ?_
                refine ExD.take (i := 5) rfl (by kernel_rfl) (fr_loadN rfl rfl rfl rfl rfl (SegO.whole (i := 0) rfl)) ((List.Sublist.refl _)) rfl rfl rfl ?_
                refine ExD.op (i := 6) rfl (by kernel_rfl) rfl (op_ret rfl rfl rfl (c_iShows [10, 10] (by assumption) _ _ (by omega) ((sureV [10, 10] q.L 0 hi).1.getD k zPh) hMk (dig (digs [10, 10] (q.tr.getD k 0))) (by assumption)) (Reads.get (Reads.row (i := 6) rfl)) rfl rfl (fun x51 hx51 => ⟨(List.Sublist.refl _), ?_⟩))
                refine ExD.take (i := 7) rfl (by kernel_rfl) (pureVal_ok rfl) ((List.Sublist.refl _)) rfl rfl rfl ?_
                refine ExD.take (i := 8) rfl (by kernel_rfl) (pureVal_ok rfl) ((List.Sublist.refl _)) rfl rfl rfl ?_
                refine ExD.take (i := 9) rfl (by kernel_rfl) (pureVal_ok rfl) ((List.Sublist.refl _)) rfl rfl rfl ?_
                refine ExD.take (i := 10) rfl (by kernel_rfl) (pureVal_ok rfl) ((List.Sublist.refl _)) rfl rfl rfl ?_
                refine ExD.take (i := 11) rfl (by kernel_rfl) (pureVal_ok rfl) ((List.Sublist.refl _)) rfl rfl rfl ?_
                refine ExD.done (by kernel_rfl) ?_
                rw [hW.tin hne (by assumption) k hkl]
                refine Ex.regSeq (ExL.pures 1 rfl ?_)
                refine ExL.free (fr_neq_f rfl rfl rfl (fun h => h rfl)) rfl rfl rfl ?_
                refine ExL.pures 4 rfl ?_
                refine ExL.nil ?_
                refine Ex.cond_f rfl ?_
                refine Ex.skip ?_
                refine Ex.regSeq (ExL.pures 1 rfl ?_)
                refine ExL.gtr rfl rfl rfl rfl rfl rfl (fun h52 => ?_) (fun h52 => ?_)
                · refine ExL.nil ?_
                  refine Ex.cond_t rfl ?_
                  refine Ex.drawSeqM rfl ?_
                  refine ExD.take (i := 0) rfl (by kernel_rfl) (pureVal_ok rfl) ((List.Sublist.refl _)) rfl rfl rfl ?_
                  refine ExD.take (i := 1) rfl (by kernel_rfl) (pureVal_ok rfl) ((List.Sublist.refl _)) rfl rfl rfl ?_
                  refine ExD.take (i := 2) rfl (by kernel_rfl) (fr_indexAddrR (sz := 1) 3 rfl rfl rfl rfl rfl rfl (by omega)) ((List.Sublist.refl _)) rfl rfl rfl ?_
                  refine ExD.take (i := 3) rfl (by kernel_rfl) (fr_load rfl rfl rfl rfl (cellJ (i := ↑k) (k) (Reads.row (i := 3) rfl) (eI_len .i64) 0 0 rfl (by omega) (by omega) rfl)) ((List.Sublist.refl _)) rfl rfl rfl ?_
                  refine ExD.take (i := 4) rfl (by kernel_rfl) (pureVal_ok rfl) ((List.Sublist.refl _)) rfl rfl rfl ?_
                  refine ExD.take (i := 5) rfl (by kernel_rfl) (pureVal_ok rfl) ((List.Sublist.refl _)) rfl rfl rfl ?_
                  refine ExD.take (i := 6) rfl (by kernel_rfl) (by first | exact fr_sub64 rfl rfl rfl (by omega) | exact fr_sub rfl rfl rfl) ((List.Sublist.refl _)) rfl rfl rfl ?_
                  refine ExD.take (i := 7) rfl (by kernel_rfl) (fr_indexAddrR (sz := 1) 3 rfl rfl rfl rfl rfl rfl (by omega)) ((List.Sublist.refl _)) rfl rfl rfl ?_
                  refine ExD.take (i := 8) rfl (by kernel_rfl) (fr_load rfl rfl rfl rfl (cellJ (i := (↑k - 1)) ((k - 1)) (Reads.row (i := 3) rfl) (eI_len .i64) 0 0 rfl (by omega) (by omega) rfl)) ((List.Sublist.refl _)) rfl rfl rfl ?_
                  refine ExD.take (i := 9) rfl (by kernel_rfl) (by first | exact fr_sub64 rfl rfl rfl (by omega) | exact fr_sub rfl rfl rfl) ((List.Sublist.refl _)) rfl rfl rfl ?_
                  refine ExD.take (i := 10) rfl (by kernel_rfl) (pureVal_ok rfl) ((List.Sublist.refl _)) rfl rfl rfl ?_
                  refine ExD.take (i := 11) rfl (by kernel_rfl) (by first | exact fr_sub64 rfl rfl rfl (by omega) | exact fr_sub rfl rfl rfl) ((List.Sublist.refl _)) rfl rfl rfl ?_
                  refine ExD.take (i := 12) rfl (by kernel_rfl) (pureVal_ok rfl) ((List.Sublist.refl _)) rfl rfl rfl ?_
                  refine ExD.done (by kernel_rfl) ?_
                  refine Ex.drawSeqM rfl ?_
                  refine ExD.take (i := 0) rfl (by kernel_rfl) (pureVal_ok rfl) ((List.Sublist.refl _)) rfl rfl rfl ?_
                  refine ExD.take (i := 1) rfl (by kernel_rfl) (pureVal_ok rfl) ((List.Sublist.refl _)) rfl rfl rfl ?_
                  refine ExD.take (i := 2) rfl (by kernel_rfl) (fr_indexAddrR (sz := 1) 5 rfl rfl rfl rfl rfl rfl (by omega)) ((List.Sublist.refl _)) rfl rfl rfl ?_
                  refine ExD.take (i := 3) rfl (by kernel_rfl) (fr_load rfl rfl rfl rfl (cellJ (i := ↑k) (k) (Reads.row (i := 5) rfl) (eI_len .i64) 0 0 rfl (by omega) (by omega) rfl)) ((List.Sublist.refl _)) rfl rfl rfl ?_
                  refine ExD.take (i := 4) rfl (by kernel_rfl) (pureVal_ok rfl) ((List.Sublist.refl _)) rfl rfl rfl ?_
                  refine ExD.take (i := 5) rfl (by kernel_rfl) (pureVal_ok rfl) ((List.Sublist.refl _)) rfl rfl rfl ?_
                  refine ExD.take (i := 6) rfl (by kernel_rfl) (by first | exact fr_sub64 rfl rfl rfl (by omega) | exact fr_sub rfl rfl rfl) ((List.Sublist.refl _)) rfl rfl rfl ?_
                  refine ExD.take (i := 7) rfl (by kernel_rfl) (fr_indexAddrR (sz := 1) 5 rfl rfl rfl rfl rfl rfl (by omega)) ((List.Sublist.refl _)) rfl rfl rfl ?_
                  refine ExD.take (i := 8) rfl (by kernel_rfl) (fr_load rfl rfl rfl rfl (cellJ (i := (↑k - 1)) ((k - 1)) (Reads.row (i := 5) rfl) (eI_len .i64) 0 0 rfl (by omega) (by omega) rfl)) ((List.Sublist.refl _)) rfl rfl rfl ?_
                  refine ExD.take (i := 9) rfl (by kernel_rfl) (by first | exact fr_sub64 rfl rfl rfl (by omega) | exact fr_sub rfl rfl rfl) ((List.Sublist.refl _)) rfl rfl rfl ?_
                  refine ExD.take (i := 10) rfl (by kernel_rfl) (pureVal_ok rfl) ((List.Sublist.refl _)) rfl rfl rfl ?_
                  refine ExD.take (i := 11) rfl (by kernel_rfl) (by first | exact fr_sub64 rfl rfl rfl (by omega) | exact fr_sub rfl rfl rfl) ((List.Sublist.refl _)) rfl rfl rfl ?_
                  refine ExD.take (i := 12) rfl (by kernel_rfl) (pureVal_ok rfl) ((List.Sublist.refl _)) rfl rfl rfl ?_
                  refine ExD.done (by kernel_rfl) ?_
                  refine Ex.regSeq (ExL.pures 3 rfl ?_)
                  refine ExL.free (by first | exact fr_neg64 rfl rfl (by omega) | exact fr_neg rfl rfl) rfl rfl rfl ?_
                  refine ExL.free (fr_max rfl rfl rfl) rfl rfl rfl ?_
                  refine ExL.free (by first | exact fr_add64 rfl rfl rfl (by omega) | exact fr_add rfl rfl rfl) rfl rfl rfl ?_
                  refine ExL.pures 1 rfl ?_
                  refine ExL.nil ?_
                  refine Ex.region (ExL.pures 3 rfl ?_)
                  refine ExL.free (by first | exact fr_neg64 rfl rfl (by omega) | exact fr_neg rfl rfl) rfl rfl rfl ?_
                  refine ExL.free (fr_max rfl rfl rfl) rfl rfl rfl ?_
                  refine ExL.free (by first | exact fr_add64 rfl rfl rfl (by omega) | exact fr_add rfl rfl rfl) rfl rfl rfl ?_
                  refine ExL.pures 1 rfl ?_
                  refine ExL.nil ?_
                  refine Ex.region (ExL.pures 1 rfl ?_)
                  refine ExL.free (by first | exact fr_add64 rfl rfl rfl (by omega) | exact fr_add rfl rfl rfl) rfl rfl rfl ?_
                  refine ExL.pures 1 rfl ?_
                  refine ExL.nil ?_
                  refine Hand.mk (k + 1) 7 [2, 3, 4, 5, 6] ⟨agI (by first | exact (own_s1 (by omega)) | exact (own_s0 (by omega))), agI (by first | exact (own_s1 (by omega)) | exact (own_s0 (by omega))), rfl, trivial⟩ ⟨rfl, rfl, rfl, rfl, rfl, rfl, rfl, rfl, rfl, rfl, trivial⟩ (rfl) rfl (by omega) (by omega)
                · refine ExL.nil ?_
                  refine Ex.cond_f rfl ?_
                  refine Ex.skip ?_
                  refine Ex.region (ExL.pures 1 rfl ?_)
                  refine ExL.free (by first | exact fr_add64 rfl rfl rfl (by omega) | exact fr_add rfl rfl rfl) rfl rfl rfl ?_
                  refine ExL.pures 1 rfl ?_
                  refine ExL.nil ?_
                  refine Hand.mk (k + 1) 7 [2, 3, 4, 5, 6] ⟨agI (by first | exact (own_s1 (by omega)) | exact (own_s0 (by omega))), agI (by first | exact (own_s1 (by omega)) | exact (own_s0 (by omega))), rfl, trivial⟩ ⟨rfl, rfl, rfl, rfl, rfl, rfl, rfl, rfl, rfl, rfl, trivial⟩ (rfl) rfl (by omega) (by omega)
              · refine Ex.skip ?_
                refine Ex.regSeq (ExL.pures 1 rfl ?_)
                refine ExL.gtr rfl rfl rfl rfl rfl rfl (fun h53 => ?_) (fun h53 => ?_)
                · refine ExL.nil ?_
                  refine Ex.cond_t rfl ?_
                  refine Ex.drawSeqM rfl ?_
                  refine ExD.take (i := 0) rfl (by kernel_rfl) (pureVal_ok rfl) ((List.Sublist.refl _)) rfl rfl rfl ?_
                  refine ExD.take (i := 1) rfl (by kernel_rfl) (pureVal_ok rfl) ((List.Sublist.refl _)) rfl rfl rfl ?_
                  refine ExD.take (i := 2) rfl (by kernel_rfl) (fr_indexAddrR (sz := 1) 3 rfl rfl rfl rfl rfl rfl (by omega)) ((List.Sublist.refl _)) rfl rfl rfl ?_
                  refine ExD.take (i := 3) rfl (by kernel_rfl) (fr_load rfl rfl rfl rfl (cellJ (i := ↑k) (k) (Reads.row (i := 3) rfl) (eI_len .i64) 0 0 rfl (by omega) (by omega) rfl)) ((List.Sublist.refl _)) rfl rfl rfl ?_
                  refine ExD.take (i := 4) rfl (by kernel_rfl) (pureVal_ok rfl) ((List.Sublist.refl _)) rfl rfl rfl ?_
                  refine ExD.take (i := 5) rfl (by kernel_rfl) (pureVal_ok rfl) ((List.Sublist.refl _)) rfl rfl rfl ?_
                  refine ExD.take (i := 6) rfl (by kernel_rfl) (by first | exact fr_sub64 rfl rfl rfl (by omega) | exact fr_sub rfl rfl rfl) ((List.Sublist.refl _)) rfl rfl rfl ?_
                  refine ExD.take (i := 7) rfl (by kernel_rfl) (fr_indexAddrR (sz := 1) 3 rfl rfl rfl rfl rfl rfl (by omega)) ((List.Sublist.refl _)) rfl rfl rfl ?_
                  refine ExD.take (i := 8) rfl (by kernel_rfl) (fr_load rfl rfl rfl rfl (cellJ (i := (↑k - 1)) ((k - 1)) (Reads.row (i := 3) rfl) (eI_len .i64) 0 0 rfl (by omega) (by omega) rfl)) ((List.Sublist.refl _)) rfl rfl rfl ?_
                  refine ExD.take (i := 9) rfl (by kernel_rfl) (by first | exact fr_sub64 rfl rfl rfl (by omega) | exact fr_sub rfl rfl rfl) ((List.Sublist.refl _)) rfl rfl rfl ?_
                  refine ExD.take (i := 10) rfl (by kernel_rfl) (pureVal_ok rfl) ((List.Sublist.refl _)) rfl rfl rfl ?_
                  refine ExD.take (i := 11) rfl (by kernel_rfl) (by first | exact fr_sub64 rfl rfl rfl (by omega) | exact fr_sub rfl rfl rfl) ((List.Sublist.refl _)) rfl rfl rfl ?_
                  refine ExD.take (i := 12) rfl (by kernel_rfl) (pureVal_ok rfl) ((List.Sublist.refl _)) rfl rfl rfl ?_
                  refine ExD.done (by kernel_rfl) ?_
                  refine Ex.drawSeqM rfl ?_
                  refine ExD.take (i := 0) rfl (by kernel_rfl) (pureVal_ok rfl) ((List.Sublist.refl _)) rfl rfl rfl ?_
                  refine ExD.take (i := 1) rfl (by kernel_rfl) (pureVal_ok rfl) ((List.Sublist.refl _)) rfl rfl rfl ?_
                  refine ExD.take (i := 2) rfl (by kernel_rfl) (fr_indexAddrR (sz := 1) 5 rfl rfl rfl rfl rfl rfl (by omega)) ((List.Sublist.refl _)) rfl rfl rfl ?_
                  refine ExD.take (i := 3) rfl (by kernel_rfl) (fr_load rfl rfl rfl rfl (cellJ (i := ↑k) (k) (Reads.row (i := 5) rfl) (eI_len .i64) 0 0 rfl (by omega) (by omega) rfl)) ((List.Sublist.refl _)) rfl rfl rfl ?_
                  refine ExD.take (i := 4) rfl (by kernel_rfl) (pureVal_ok rfl) ((List.Sublist.refl _)) rfl rfl rfl ?_
                  refine ExD.take (i := 5) rfl (by kernel_rfl) (pureVal_ok rfl) ((List.Sublist.refl _)) rfl rfl rfl ?_
                  refine ExD.take (i := 6) rfl (by kernel_rfl) (by first | exact fr_sub64 rfl rfl rfl (by omega) | exact fr_sub rfl rfl rfl) ((List.Sublist.refl _)) rfl rfl rfl ?_
                  refine ExD.take (i := 7) rfl (by kernel_rfl) (fr_indexAddrR (sz := 1) 5 rfl rfl rfl rfl rfl rfl (by omega)) ((List.Sublist.refl _)) rfl rfl rfl ?_
                  refine ExD.take (i := 8) rfl (by kernel_rfl) (fr_load rfl rfl rfl rfl (cellJ (i := (↑k - 1)) ((k - 1)) (Reads.row (i := 5) rfl) (eI_len .i64) 0 0 rfl (by omega) (by omega) rfl)) ((List.Sublist.refl _)) rfl rfl rfl ?_
                  refine ExD.take (i := 9) rfl (by kernel_rfl) (by first | exact fr_sub64 rfl rfl rfl (by omega) | exact fr_sub rfl rfl rfl) ((List.Sublist.refl _)) rfl rfl rfl ?_
                  refine ExD.take (i := 10) rfl (by kernel_rfl) (pureVal_ok rfl) ((List.Sublist.refl _)) rfl rfl rfl ?_
                  refine ExD.take (i := 11) rfl (by kernel_rfl) (by first | exact fr_sub64 rfl rfl rfl (by omega) | exact fr_sub rfl rfl rfl) ((List.Sublist.refl _)) rfl rfl rfl ?_
                  refine ExD.take (i := 12) rfl (by kernel_rfl) (pureVal_ok rfl) ((List.Sublist.refl _)) rfl rfl rfl ?_
                  refine ExD.done (by kernel_rfl) ?_
                  refine Ex.regSeq (ExL.pures 3 rfl ?_)
                  refine ExL.free (by first | exact fr_neg64 rfl rfl (by omega) | exact fr_neg rfl rfl) rfl rfl rfl ?_
                  refine ExL.free (fr_max rfl rfl rfl) rfl rfl rfl ?_
                  refine ExL.free (by first | exact fr_add64 rfl rfl rfl (by omega) | exact fr_add rfl rfl rfl) rfl rfl rfl ?_
                  refine ExL.pures 1 rfl ?_
                  refine ExL.nil ?_
                  refine Ex.region (ExL.pures 3 rfl ?_)
                  refine ExL.free (by first | exact fr_neg64 rfl rfl (by omega) | exact fr_neg rfl rfl) rfl rfl rfl ?_
                  refine ExL.free (fr_max rfl rfl rfl) rfl rfl rfl ?_
                  refine ExL.free (by first | exact fr_add64 rfl rfl rfl (by omega) | exact fr_add rfl rfl rfl) rfl rfl rfl ?_
                  refine ExL.pures 1 rfl ?_
                  refine ExL.nil ?_
                  refine Ex.region (ExL.pures 1 rfl ?_)
                  refine ExL.free (by first | exact fr_add64 rfl rfl rfl (by omega) | exact fr_add rfl rfl rfl) rfl rfl rfl ?_
                  refine ExL.pures 1 rfl ?_
                  refine ExL.nil ?_
                  refine Hand.mk (k + 1) 7 [2, 3, 4, 5, 6] ⟨agI (by first | exact (own_s1 (by omega)) | exact (own_s0 (by omega))), agI (by first | exact (own_s1 (by omega)) | exact (own_s0 (by omega))), rfl, trivial⟩ ⟨rfl, rfl, rfl, rfl, rfl, rfl, rfl, rfl, rfl, rfl, trivial⟩ (rfl) rfl (by omega) (by omega)
                · refine ExL.nil ?_
                  refine Ex.cond_f rfl ?_
                  refine Ex.skip ?_
                  refine Ex.region (ExL.pures 1 rfl ?_)
                  refine ExL.free (by first | exact fr_add64 rfl rfl rfl (by omega) | exact fr_add rfl rfl rfl) rfl rfl rfl ?_
                  refine ExL.pures 1 rfl ?_
                  refine ExL.nil ?_
                  refine Hand.mk (k + 1) 7 [2, 3, 4, 5, 6] ⟨agI (by first | exact (own_s1 (by omega)) | exact (own_s0 (by omega))), agI (by first | exact (own_s1 (by omega)) | exact (own_s0 (by omega))), rfl, trivial⟩ ⟨rfl, rfl, rfl, rfl, rfl, rfl, rfl, rfl, rfl, rfl, trivial⟩ (rfl) rfl (by omega) (by omega)
            · refine ExL.nil ?_
              refine Ex.cond_f rfl ?_
              refine Ex.exit ?_
              obtain rfl : k = q.L.length := by omega
              have hco : ownL us (likV [10, 10] q.L 0 hi us).1 q.L.length = (likV [10, 10] q.L 0 hi us).2.1 := hW.cost hne
              refine Ex.regSeq (ExL.pures 3 rfl ?_)
              refine ExL.op rfl (op_ret rfl rfl rfl (c_iWays [10, 10] (by first | assumption | exact nums2) _ _ (by omega) (sureV [10, 10] q.L 0 hi).1 (by assumption) _ _ (by omega) 0 hi) (fun w hw => ⟨Reads.get (Reads.row (i := 4) rfl) w hw, Reads.get (Reads.row (i := 0) rfl) w hw⟩) rfl rfl (fun x54 hx54 => ?_))
              refine ExL.pures 5 rfl ?_
              refine ExL.nil ?_
              refine Ex.regSeq (ExL.pures 2 rfl ?_)
              refine ExL.free (fr_eql_t rfl rfl rfl (hco)) rfl rfl rfl ?_
              refine ExL.pures 4 rfl ?_
              refine ExL.bool (d := 400) rfl (fun hb55 => ?_) (fun hb55 => ?_)
              · replace hb55 := nb_t hb55
                refine ExL.pures 7 rfl ?_
                refine ExL.free (fr_eql_t rfl rfl rfl ((hW.again hne).1)) rfl rfl rfl ?_
                refine ExL.pures 4 rfl ?_
                refine ExL.free (fr_geq_t rfl rfl rfl ((hW.again hne).2)) rfl rfl rfl ?_
                refine ExL.pures 2 rfl ?_
                refine ExL.nil ?_
                refine Ex.ret ?_
                refine RetQ.mk () rfl (.tmp rfl .nil) (rfl) [] (rfl) rfl (trivial)
              · replace hb55 := nb_f hb55
                refine ExL.pures 2 rfl ?_
                refine ExL.free (fr_geq_t rfl rfl rfl (hW.own hne (by assumption))) rfl rfl rfl ?_
                refine ExL.pures 4 rfl ?_
                refine ExL.free (fr_eql_t rfl rfl rfl ((hW.again hne).1)) rfl rfl rfl ?_
                refine ExL.pures 4 rfl ?_
                refine ExL.free (fr_geq_t rfl rfl rfl ((hW.again hne).2)) rfl rfl rfl ?_
                refine ExL.pures 2 rfl ?_
                refine ExL.nil ?_
                refine Ex.ret ?_
                refine RetQ.mk () rfl (.tmp rfl .nil) (rfl) [] (rfl) rfl (trivial)
          · refine ExL.pures 4 rfl ?_
            refine ExL.nil ?_
            refine Ex.cond_f rfl ?_
            refine Ex.skip ?_
            refine Ex.seq ?_
            refine Ex.regSeq (ExL.pures 1 rfl ?_)
            refine ExL.free (fr_eql_f rfl rfl rfl (by assumption)) rfl rfl rfl ?_
            refine ExL.nil ?_
            refine Ex.cond_f rfl ?_
            refine Ex.skip ?_
            refine Ex.regSeq (ExL.pures 4 rfl ?_)
            refine ExL.op rfl (op_ret rfl rfl rfl (c_iCheck [10, 10] (by first | assumption | exact nums2) _ _ (by omega) q.L (by assumption) _ _ (by omega) 0 hi ((likV [10, 10] q.L 0 hi us).1) _ _ (by omega)) (fun w hw => ⟨Reads.get (Reads.row (i := 6) rfl) w hw, Reads.get (Reads.row (i := 4) rfl) w hw, Reads.get (Reads.row (i := 2) rfl) w hw⟩) rfl rfl (fun x56 hx56 => ?_))
            refine ExL.pures 5 rfl ?_
            refine ExL.nil ?_
            refine Ex.seq ?_
            have hne : (waysV [10, 10] q.L 0 hi).1 ≠ 0 := by assumption
            have hbk := hW.best hne
            rw [hbk]
            have hml := (hW.len hne).1
            refine Ex.know (row_blk (i := 0) rfl (by omega)) (fun ⟨g28, hg28⟩ => ?_)
            rw [hg28]
            have hbl := (hW.len hne).2
            have hMs := hW.phs hne
            have hMo : ∀ k, k < (sureV [10, 10] q.L 0 hi).1.length → OkPh ((sureV [10, 10] q.L 0 hi).1.getD k zPh) := fun k hk => (hMs k hk).1
            have hin9 : In100 (likV [10, 10] q.L 0 hi us).1 := fun i hi9 => (hW.bin hne i (by omega)).1
            refine Ex.regSeq (ExL.pures 1 rfl ?_)
            refine ExL.free (fr_neq_f rfl rfl rfl (fun h => h rfl)) rfl rfl rfl ?_
            refine ExL.pures 9 rfl ?_
            refine ExL.free (fr_neq_f rfl rfl rfl (by omega)) rfl rfl rfl ?_
            refine ExL.pures 1 rfl ?_
            refine ExL.nil ?_
            refine Ex.cond_f rfl ?_
            refine Ex.skip ?_
            refine Ex.regSeq (ExL.pures 1 rfl ?_)
            refine ExL.nil ?_
            refine Ex.regSeq (ExL.pures 1 rfl ?_)
            refine ExL.nil ?_
            refine Ex.seq ?_
            refine Ex.regSeq (ExL.pures 1 rfl ?_)
            refine ExL.nil ?_
            refine Ex.block ?_
            refine Ex.loopK (X := Nat) (fun k => [(36, .int .i64 (ownL us (likV [10, 10] q.L 0 hi us).1 k)), (37, .int .i64 (ownL us q.tr k)), (38, .int .i64 k)]) (fun k => []) (fun k => k ≤ q.L.length) (fun k => q.L.length - k) 0 [(5, _), (6, _), (7, _), (10, _), (11, _), (14, _), (23, _), (24, _), (28, _), (30, _)] [_, _, _, _, _] 7 [0, 2, 4, 5, 6] ⟨rfl, rfl, rfl, trivial⟩ ⟨rfl, rfl, rfl, rfl, rfl, rfl, rfl, rfl, rfl, rfl, trivial⟩ (rfl) rfl (Nat.zero_le _) (fun k hI => ?_)
            have hI : k ≤ q.L.length := hI
            refine Ex.seq ?_
            refine Ex.regSeq (ExL.pures 3 rfl ?_)
            refine ExL.lss rfl rfl rfl rfl rfl rfl (fun h57 => ?_) (fun h57 => ?_)
            · refine ExL.nil ?_
              refine Ex.cond_t rfl ?_
              refine Ex.skip ?_
              refine Ex.seq ?_
              refine Ex.block ?_
              have hkl : k < q.L.length := by omega
              have hbin := hW.bin hne k hkl
              have htk := hT k (by omega)
              have hob1 := own_bd hin9 (us := us) (by omega) k (by omega)
              have hob2 := own_bd hT (us := us) (by omega) k (by omega)
              have hn1 : Nums 255 (dig (digs [10, 10] ((likV [10, 10] q.L 0 hi us).1.getD k 0))).l := by rw [dig_l (digs_len _ _)]; exact digs_num stk2.bases
              have hn2 : Nums 255 (dig (digs [10, 10] (q.tr.getD k 0))).l := by rw [dig_l (digs_len _ _)]; exact digs_num stk2.bases
              have hbk1 := fun (h : 0 < k) => hin9 (k - 1) (by omega)
              have htk1 := fun (h : 0 < k) => hT (k - 1) (by omega)
              have hMk := (hMs k (by omega)).1
              have hs2 : size [10, 10] = 100 := by decide
              refine Ex.regSeq (ExL.pures 3 rfl ?_)
              refine ExL.free (fr_indexAddrR (sz := 1) 1 rfl rfl rfl rfl rfl rfl (by omega)) rfl rfl rfl ?_
              refine ExL.free (fr_load rfl rfl rfl rfl (cellJ (i := ↑k) (k) (Reads.row (i := 1) rfl) (eI_len .i64) 0 0 rfl (by omega) (by omega) rfl)) rfl rfl rfl ?_
              refine ExL.op rfl (op_ret rfl rfl rfl (c_DigitsOf [10, 10] (by first | assumption | exact valid2) (by first | assumption | exact nums2) _ _ ((likV [10, 10] q.L 0 hi us).1.getD k 0) (by omega)) (Reads.get (Reads.row (i := 4) rfl)) rfl rfl (fun x58 hx58 => ?_))
              refine ExL.pures 3 rfl ?_
              refine ExL.op rfl (op_alloc rfl rfl rfl rfl rfl (fun b59 => ?_))
              refine ExL.op rfl (op_storeC (i := 0) rfl rfl rfl rfl rfl rfl rfl rfl rfl rfl ?_)
              refine ExL.pures 1 rfl ?_
              refine ExL.nil ?_
              refine Ex.drawSeqM rfl ?_
              refine ExD.take (i := 0) rfl (by kernel_rfl) (pureVal_ok rfl) ((List.Sublist.refl _)) rfl rfl rfl ?_
              refine ExD.take (i := 1) rfl (by kernel_rfl) (pureVal_ok rfl) ((List.Sublist.refl _)) rfl rfl rfl ?_
              refine ExD.take (i := 2) rfl (by kernel_rfl) (pureVal_ok rfl) ((List.Sublist.refl _)) rfl rfl rfl ?_
              refine ExD.take (i := 3) rfl (by kernel_rfl) (fr_indexAddrR (sz := 16) 1 rfl rfl rfl rfl rfl rfl (by omega)) ((List.Sublist.refl _)) rfl rfl rfl ?_
              refine ExD.take (i := 4) rfl (by kernel_rfl) (fr_loadN rfl rfl rfl rfl rfl (segJ (k) (Reads.row (i := 1) rfl) encPh_len rfl zPh (by omega) (by omega))) ((List.Sublist.refl _)) rfl rfl rfl ?_
              refine ExD.take (i := 5) rfl (by kernel_rfl) (fr_loadN rfl rfl rfl rfl rfl (SegO.whole (i := 0) rfl)) ((List.Sublist.refl _)) rfl rfl rfl ?_
              refine ExD.op (i := 6) rfl (by kernel_rfl) rfl (op_ret rfl rfl rfl (c_iShows [10, 10] (by assumption) _ _ (by omega) ((sureV [10, 10] q.L 0 hi).1.getD k zPh) hMk (dig (digs [10, 10] ((likV [10, 10] q.L 0 hi us).1.getD k 0))) (by assumption)) (Reads.get (Reads.row (i := 5) rfl)) rfl rfl (fun x60 hx60 => ⟨(List.Sublist.refl _), ?_⟩))
              refine ExD.take (i := 7) rfl (by kernel_rfl) (pureVal_ok rfl) ((List.Sublist.refl _)) rfl rfl rfl ?_
              refine ExD.take (i := 8) rfl (by kernel_rfl) (pureVal_ok rfl) ((List.Sublist.refl _)) rfl rfl rfl ?_
              refine ExD.take (i := 9) rfl (by kernel_rfl) (pureVal_ok rfl) ((List.Sublist.refl _)) rfl rfl rfl ?_
              refine ExD.take (i := 10) rfl (by kernel_rfl) (pureVal_ok rfl) ((List.Sublist.refl _)) rfl rfl rfl ?_
              refine ExD.take (i := 11) rfl (by kernel_rfl) (pureVal_ok rfl) ((List.Sublist.refl _)) rfl rfl rfl ?_
              refine ExD.done (by kernel_rfl) ?_
              rw [hbin.2]
              refine Ex.regSeq (ExL.pures 3 rfl ?_)
              refine ExL.free (fr_indexAddrR (sz := 1) 4 rfl rfl rfl rfl rfl rfl (by omega)) rfl rfl rfl ?_
              refine ExL.free (fr_load rfl rfl rfl rfl (cellJ (i := ↑k) (k) (Reads.row (i := 4) rfl) (eI_len .i64) 0 0 rfl (by omega) (by omega) rfl)) rfl rfl rfl ?_
              refine ExL.op rfl (op_ret rfl rfl rfl (c_DigitsOf [10, 10] (by first | assumption | exact valid2) (by first | assumption | exact nums2) _ _ (q.tr.getD k 0) (by omega)) (Reads.get (Reads.row (i := 5) rfl)) rfl rfl (fun x61 hx61 => ?_))
              refine ExL.pures 3 rfl ?_
              refine ExL.op rfl (op_alloc rfl rfl rfl rfl rfl (fun b62 => ?_))
              refine ExL.op rfl (op_storeC (i := 0) rfl rfl rfl rfl rfl rfl rfl rfl rfl rfl ?_)
              refine ExL.pures 1 rfl ?_
              refine ExL.nil ?_
              refine Ex.seq ?_
              refine Ex.regSeq (ExL.pures 1 rfl ?_)
              refine ExL.free (fr_neq_f rfl rfl rfl (fun h => h rfl)) rfl rfl rfl ?_
              refine ExL.pures 2 rfl ?_
              refine ExL.free (fr_neq_f rfl rfl rfl (fun h => h rfl)) rfl rfl rfl ?_
              refine ExL.pures 7 rfl ?_
              refine ExL.free (fr_neq_f rfl rfl rfl (fun h => h rfl)) rfl rfl rfl ?_
              refine ExL.pures 1 rfl ?_
              refine ExL.nil ?_
              refine Ex.cond_f rfl ?_
              refine Ex.skip ?_
              refine Ex.seq ?_
              refine Ex.regSeq (ExL.pures 1 rfl ?_)
              refine ExL.nil ?_
              refine Ex.cond rfl (fun hb63 => ?_) (fun hb63 => ?_)
              · refine Ex.drawSeqM rfl ?_
                refine ExD.take (i := 0) rfl (by kernel_rfl) (pureVal_ok rfl) ((List.Sublist.refl _)) rfl rfl rfl ?_
                refine ExD.take (i := 1) rfl (by kernel_rfl) (pureVal_ok rfl) ((List.Sublist.refl _)) rfl rfl rfl ?_
                refine ExD.take (i := 2) rfl (by kernel_rfl) (pureVal_ok rfl) ((List.Sublist.refl _)) rfl rfl rfl ?_
                refine ExD.take (i := 3) rfl (by kernel_rfl) (fr_indexAddrR (sz := 16) 2 rfl rfl rfl rfl rfl rfl (by omega)) ((List.Sublist.refl _)) rfl rfl rfl ?_
                refine ExD.take (i := 4) rfl (by kernel_rfl) (fr_loadN rfl rfl rfl rfl rfl (segJ (k) (Reads.row (i := 2) rfl) encPh_len rfl zPh (by omega) (by omega))) ((List.Sublist.refl _)) rfl rfl rfl ?_
                refine ExD.take (i := 5) rfl (by kernel_rfl) (fr_loadN rfl rfl rfl rfl rfl (SegO.whole (i := 0) rfl)) ((List.Sublist.refl _)) rfl rfl rfl ?_
                refine ExD.op (i := 6) rfl (by kernel_rfl) rfl (op_ret rfl rfl rfl (c_iShows [10, 10] (by assumption) _ _ (by omega) ((sureV [10, 10] q.L 0 hi).1.getD k zPh) hMk (dig (digs [10, 10] (q.tr.getD k 0))) (by assumption)) (Reads.get (Reads.row (i := 6) rfl)) rfl rfl (fun x64 hx64 => ⟨(List.Sublist.refl _), ?_⟩))
                refine ExD.take (i := 7) rfl (by kernel_rfl) (pureVal_ok rfl) ((List.Sublist.refl _)) rfl rfl rfl ?_
                refine ExD.take (i := 8) rfl (by kernel_rfl) (pureVal_ok rfl) ((List.Sublist.refl _)) rfl rfl rfl ?_
                refine ExD.take (i := 9) rfl (by kernel_rfl) (pureVal_ok rfl) ((List.Sublist.refl _)) rfl rfl rfl ?_
                refine ExD.take (i := 10) rfl (by kernel_rfl) (pureVal_ok rfl) ((List.Sublist.refl _)) rfl rfl rfl ?_
                refine ExD.take (i := 11) rfl (by kernel_rfl) (pureVal_ok rfl) ((List.Sublist.refl _)) rfl rfl rfl ?_
                refine ExD.done (by kernel_rfl) ?_
                rw [hW.tin hne (by assumption) k hkl]
                refine Ex.regSeq (ExL.pures 1 rfl ?_)
                refine ExL.free (fr_neq_f rfl rfl rfl (fun h => h rfl)) rfl rfl rfl ?_
                refine ExL.pures 4 rfl ?_
                refine ExL.nil ?_
                refine Ex.cond_f rfl ?_
                refine Ex.skip ?_
                refine Ex.regSeq (ExL.pures 1 rfl ?_)
                refine ExL.gtr rfl rfl rfl rfl rfl rfl (fun h65 => ?_) (fun h65 => ?_)
                · refine ExL.nil ?_
                  refine Ex.cond_t rfl ?_
                  refine Ex.drawSeqM rfl ?_
                  refine ExD.take (i := 0) rfl (by kernel_rfl) (pureVal_ok rfl) ((List.Sublist.refl _)) rfl rfl rfl ?_
                  refine ExD.take (i := 1) rfl (by kernel_rfl) (pureVal_ok rfl) ((List.Sublist.refl _)) rfl rfl rfl ?_
                  refine ExD.take (i := 2) rfl (by kernel_rfl) (fr_indexAddrR (sz := 1) 3 rfl rfl rfl rfl rfl rfl (by omega)) ((List.Sublist.refl _)) rfl rfl rfl ?_
                  refine ExD.take (i := 3) rfl (by kernel_rfl) (fr_load rfl rfl rfl rfl (cellJ (i := ↑k) (k) (Reads.row (i := 3) rfl) (eI_len .i64) 0 0 rfl (by omega) (by omega) rfl)) ((List.Sublist.refl _)) rfl rfl rfl ?_
                  refine ExD.take (i := 4) rfl (by kernel_rfl) (pureVal_ok rfl) ((List.Sublist.refl _)) rfl rfl rfl ?_
                  refine ExD.take (i := 5) rfl (by kernel_rfl) (pureVal_ok rfl) ((List.Sublist.refl _)) rfl rfl rfl ?_
                  refine ExD.take (i := 6) rfl (by kernel_rfl) (by first | exact fr_sub64 rfl rfl rfl (by omega) | exact fr_sub rfl rfl rfl) ((List.Sublist.refl _)) rfl rfl rfl ?_
                  refine ExD.take (i := 7) rfl (by kernel_rfl) (fr_indexAddrR (sz := 1) 3 rfl rfl rfl rfl rfl rfl (by omega)) ((List.Sublist.refl _)) rfl rfl rfl ?_
                  refine ExD.take (i := 8) rfl (by kernel_rfl) (fr_load rfl rfl rfl rfl (cellJ (i := (↑k - 1)) ((k - 1)) (Reads.row (i := 3) rfl) (eI_len .i64) 0 0 rfl (by omega) (by omega) rfl)) ((List.Sublist.refl _)) rfl rfl rfl ?_
                  refine ExD.take (i := 9) rfl (by kernel_rfl) (by first | exact fr_sub64 rfl rfl rfl (by omega) | exact fr_sub rfl rfl rfl) ((List.Sublist.refl _)) rfl rfl rfl ?_
                  refine ExD.take (i := 10) rfl (by kernel_rfl) (pureVal_ok rfl) ((List.Sublist.refl _)) rfl rfl rfl ?_
                  refine ExD.take (i := 11) rfl (by kernel_rfl) (by first | exact fr_sub64 rfl rfl rfl (by omega) | exact fr_sub rfl rfl rfl) ((List.Sublist.refl _)) rfl rfl rfl ?_
                  refine ExD.take (i := 12) rfl (by kernel_rfl) (pureVal_ok rfl) ((List.Sublist.refl _)) rfl rfl rfl ?_
                  refine ExD.done (by kernel_rfl) ?_
                  refine Ex.drawSeqM rfl ?_
                  refine ExD.take (i := 0) rfl (by kernel_rfl) (pureVal_ok rfl) ((List.Sublist.refl _)) rfl rfl rfl ?_
                  refine ExD.take (i := 1) rfl (by kernel_rfl) (pureVal_ok rfl) ((List.Sublist.refl _)) rfl rfl rfl ?_
                  refine ExD.take (i := 2) rfl (by kernel_rfl) (fr_indexAddrR (sz := 1) 5 rfl rfl rfl rfl rfl rfl (by omega)) ((List.Sublist.refl _)) rfl rfl rfl ?_
                  refine ExD.take (i := 3) rfl (by kernel_rfl) (fr_load rfl rfl rfl rfl (cellJ (i := ↑k) (k) (Reads.row (i := 5) rfl) (eI_len .i64) 0 0 rfl (by omega) (by omega) rfl)) ((List.Sublist.refl _)) rfl rfl rfl ?_
                  refine ExD.take (i := 4) rfl (by kernel_rfl) (pureVal_ok rfl) ((List.Sublist.refl _)) rfl rfl rfl ?_
                  refine ExD.take (i := 5) rfl (by kernel_rfl) (pureVal_ok rfl) ((List.Sublist.refl _)) rfl rfl rfl ?_
                  refine ExD.take (i := 6) rfl (by kernel_rfl) (by first | exact fr_sub64 rfl rfl rfl (by omega) | exact fr_sub rfl rfl rfl) ((List.Sublist.refl _)) rfl rfl rfl ?_
                  refine ExD.take (i := 7) rfl (by kernel_rfl) (fr_indexAddrR (sz := 1) 5 rfl rfl rfl rfl rfl rfl (by omega)) ((List.Sublist.refl _)) rfl rfl rfl ?_
                  refine ExD.take (i := 8) rfl (by kernel_rfl) (fr_load rfl rfl rfl rfl (cellJ (i := (↑k - 1)) ((k - 1)) (Reads.row (i := 5) rfl) (eI_len .i64) 0 0 rfl (by omega) (by omega) rfl)) ((List.Sublist.refl _)) rfl rfl rfl ?_
                  refine ExD.take (i := 9) rfl (by kernel_rfl) (by first | exact fr_sub64 rfl rfl rfl (by omega) | exact fr_sub rfl rfl rfl) ((List.Sublist.refl _)) rfl rfl rfl ?_
                  refine ExD.take (i := 10) rfl (by kernel_rfl) (pureVal_ok rfl) ((List.Sublist.refl _)) rfl rfl rfl ?_
                  refine ExD.take (i := 11) rfl (by kernel_rfl) (by first | exact fr_sub64 rfl rfl rfl (by omega) | exact fr_sub rfl rfl rfl) ((List.Sublist.refl _)) rfl rfl rfl ?_
                  refine ExD.take (i := 12) rfl (by kernel_rfl) (pureVal_ok rfl) ((List.Sublist.refl _)) rfl rfl rfl ?_
                  refine ExD.done (by kernel_rfl) ?_
                  refine Ex.regSeq (ExL.pures 3 rfl ?_)
                  refine ExL.free (by first | exact fr_neg64 rfl rfl (by omega) | exact fr_neg rfl rfl) rfl rfl rfl ?_
                  refine ExL.free (fr_max rfl rfl rfl) rfl rfl rfl ?_
                  refine ExL.free (by first | exact fr_add64 rfl rfl rfl (by omega) | exact fr_add rfl rfl rfl) rfl rfl rfl ?_
                  refine ExL.pures 1 rfl ?_
                  refine ExL.nil ?_
                  refine Ex.region (ExL.pures 3 rfl ?_)
                  refine ExL.free (by first | exact fr_neg64 rfl rfl (by omega) | exact fr_neg rfl rfl) rfl rfl rfl ?_
                  refine ExL.free (fr_max rfl rfl rfl) rfl rfl rfl ?_
                  refine ExL.free (by first | exact fr_add64 rfl rfl rfl (by omega) | exact fr_add rfl rfl rfl) rfl rfl rfl ?_
                  refine ExL.pures 1 rfl ?_
                  refine ExL.nil ?_
                  refine Ex.region (ExL.pures 1 rfl ?_)
                  refine ExL.free (by first | exact fr_add64 rfl rfl rfl (by omega) | exact fr_add rfl rfl rfl) rfl rfl rfl ?_
                  refine ExL.pures 1 rfl ?_
                  refine ExL.nil ?_
                  refine Hand.mk (k + 1) 7 [2, 3, 4, 5, 6] ⟨agI (by first | exact (own_s1 (by omega)) | exact (own_s0 (by omega))), agI (by first | exact (own_s1 (by omega)) | exact (own_s0 (by omega))), rfl, trivial⟩ ⟨rfl, rfl, rfl, rfl, rfl, rfl, rfl, rfl, rfl, rfl, trivial⟩ (rfl) rfl (by omega) (by omega)
                · refine ExL.nil ?_
                  refine Ex.cond_f rfl ?_
                  refine Ex.skip ?_
                  refine Ex.region (ExL.pures 1 rfl ?_)
                  refine ExL.free (by first | exact fr_add64 rfl rfl rfl (by omega) | exact fr_add rfl rfl rfl) rfl rfl rfl ?_
                  refine ExL.pures 1 rfl ?_
                  refine ExL.nil ?_
                  refine Hand.mk (k + 1) 7 [2, 3, 4, 5, 6] ⟨agI (by first | exact (own_s1 (by omega)) | exact (own_s0 (by omega))), agI (by first | exact (own_s1 (by omega)) | exact (own_s0 (by omega))), rfl, trivial⟩ ⟨rfl, rfl, rfl, rfl, rfl, rfl, rfl, rfl, rfl, rfl, trivial⟩ (rfl) rfl (by omega) (by omega)
              · refine Ex.skip ?_
                refine Ex.regSeq (ExL.pures 1 rfl ?_)
                refine ExL.gtr rfl rfl rfl rfl rfl rfl (fun h66 => ?_) (fun h66 => ?_)
                · refine ExL.nil ?_
                  refine Ex.cond_t rfl ?_
                  refine Ex.drawSeqM rfl ?_
                  refine ExD.take (i := 0) rfl (by kernel_rfl) (pureVal_ok rfl) ((List.Sublist.refl _)) rfl rfl rfl ?_
                  refine ExD.take (i := 1) rfl (by kernel_rfl) (pureVal_ok rfl) ((List.Sublist.refl _)) rfl rfl rfl ?_
                  refine ExD.take (i := 2) rfl (by kernel_rfl) (fr_indexAddrR (sz := 1) 3 rfl rfl rfl rfl rfl rfl (by omega)) ((List.Sublist.refl _)) rfl rfl rfl ?_
                  refine ExD.take (i := 3) rfl (by kernel_rfl) (fr_load rfl rfl rfl rfl (cellJ (i := ↑k) (k) (Reads.row (i := 3) rfl) (eI_len .i64) 0 0 rfl (by omega) (by omega) rfl)) ((List.Sublist.refl _)) rfl rfl rfl ?_
                  refine ExD.take (i := 4) rfl (by kernel_rfl) (pureVal_ok rfl) ((List.Sublist.refl _)) rfl rfl rfl ?_
                  refine ExD.take (i := 5) rfl (by kernel_rfl) (pureVal_ok rfl) ((List.Sublist.refl _)) rfl rfl rfl ?_
                  refine ExD.take (i := 6) rfl (by kernel_rfl) (by first | exact fr_sub64 rfl rfl rfl (by omega) | exact fr_sub rfl rfl rfl) ((List.Sublist.refl _)) rfl rfl rfl ?_
                  refine ExD.take (i := 7) rfl (by kernel_rfl) (fr_indexAddrR (sz := 1) 3 rfl rfl rfl rfl rfl rfl (by omega)) ((List.Sublist.refl _)) rfl rfl rfl ?_
                  refine ExD.take (i := 8) rfl (by kernel_rfl) (fr_load rfl rfl rfl rfl (cellJ (i := (↑k - 1)) ((k - 1)) (Reads.row (i := 3) rfl) (eI_len .i64) 0 0 rfl (by omega) (by omega) rfl)) ((List.Sublist.refl _)) rfl rfl rfl ?_
                  refine ExD.take (i := 9) rfl (by kernel_rfl) (by first | exact fr_sub64 rfl rfl rfl (by omega) | exact fr_sub rfl rfl rfl) ((List.Sublist.refl _)) rfl rfl rfl ?_
                  refine ExD.take (i := 10) rfl (by kernel_rfl) (pureVal_ok rfl) ((List.Sublist.refl _)) rfl rfl rfl ?_
                  refine ExD.take (i := 11) rfl (by kernel_rfl) (by first | exact fr_sub64 rfl rfl rfl (by omega) | exact fr_sub rfl rfl rfl) ((List.Sublist.refl _)) rfl rfl rfl ?_
                  refine ExD.take (i := 12) rfl (by kernel_rfl) (pureVal_ok rfl) ((List.Sublist.refl _)) rfl rfl rfl ?_
                  refine ExD.done (by kernel_rfl) ?_
                  refine Ex.drawSeqM rfl ?_
                  refine ExD.take (i := 0) rfl (by kernel_rfl) (pureVal_ok rfl) ((List.Sublist.refl _)) rfl rfl rfl ?_
                  refine ExD.take (i := 1) rfl (by kernel_rfl) (pureVal_ok rfl) ((List.Sublist.refl _)) rfl rfl rfl ?_
                  refine ExD.take (i := 2) rfl (by kernel_rfl) (fr_indexAddrR (sz := 1) 5 rfl rfl rfl rfl rfl rfl (by omega)) ((List.Sublist.refl _)) rfl rfl rfl ?_
                  refine ExD.take (i := 3) rfl (by kernel_rfl) (fr_load rfl rfl rfl rfl (cellJ (i := ↑k) (k) (Reads.row (i := 5) rfl) (eI_len .i64) 0 0 rfl (by omega) (by omega) rfl)) ((List.Sublist.refl _)) rfl rfl rfl ?_
                  refine ExD.take (i := 4) rfl (by kernel_rfl) (pureVal_ok rfl) ((List.Sublist.refl _)) rfl rfl rfl ?_
                  refine ExD.take (i := 5) rfl (by kernel_rfl) (pureVal_ok rfl) ((List.Sublist.refl _)) rfl rfl rfl ?_
                  refine ExD.take (i := 6) rfl (by kernel_rfl) (by first | exact fr_sub64 rfl rfl rfl (by omega) | exact fr_sub rfl rfl rfl) ((List.Sublist.refl _)) rfl rfl rfl ?_
                  refine ExD.take (i := 7) rfl (by kernel_rfl) (fr_indexAddrR (sz := 1) 5 rfl rfl rfl rfl rfl rfl (by omega)) ((List.Sublist.refl _)) rfl rfl rfl ?_
                  refine ExD.take (i := 8) rfl (by kernel_rfl) (fr_load rfl rfl rfl rfl (cellJ (i := (↑k - 1)) ((k - 1)) (Reads.row (i := 5) rfl) (eI_len .i64) 0 0 rfl (by omega) (by omega) rfl)) ((List.Sublist.refl _)) rfl rfl rfl ?_
                  refine ExD.take (i := 9) rfl (by kernel_rfl) (by first | exact fr_sub64 rfl rfl rfl (by omega) | exact fr_sub rfl rfl rfl) ((List.Sublist.refl _)) rfl rfl rfl ?_
                  refine ExD.take (i := 10) rfl (by kernel_rfl) (pureVal_ok rfl) ((List.Sublist.refl _)) rfl rfl rfl ?_
                  refine ExD.take (i := 11) rfl (by kernel_rfl) (by first | exact fr_sub64 rfl rfl rfl (by omega) | exact fr_sub rfl rfl rfl) ((List.Sublist.refl _)) rfl rfl rfl ?_
                  refine ExD.take (i := 12) rfl (by kernel_rfl) (pureVal_ok rfl) ((List.Sublist.refl _)) rfl rfl rfl ?_
                  refine ExD.done (by kernel_rfl) ?_
                  refine Ex.regSeq (ExL.pures 3 rfl ?_)
                  refine ExL.free (by first | exact fr_neg64 rfl rfl (by omega) | exact fr_neg rfl rfl) rfl rfl rfl ?_
                  refine ExL.free (fr_max rfl rfl rfl) rfl rfl rfl ?_
                  refine ExL.free (by first | exact fr_add64 rfl rfl rfl (by omega) | exact fr_add rfl rfl rfl) rfl rfl rfl ?_
                  refine ExL.pures 1 rfl ?_
                  refine ExL.nil ?_
                  refine Ex.region (ExL.pures 3 rfl ?_)
                  refine ExL.free (by first | exact fr_neg64 rfl rfl (by omega) | exact fr_neg rfl rfl) rfl rfl rfl ?_
                  refine ExL.free (fr_max rfl rfl rfl) rfl rfl rfl ?_
                  refine ExL.free (by first | exact fr_add64 rfl rfl rfl (by omega) | exact fr_add rfl rfl rfl) rfl rfl rfl ?_
                  refine ExL.pures 1 rfl ?_
                  refine ExL.nil ?_
                  refine Ex.region (ExL.pures 1 rfl ?_)
                  refine ExL.free (by first | exact fr_add64 rfl rfl rfl (by omega) | exact fr_add rfl rfl rfl) rfl rfl rfl ?_
                  refine ExL.pures 1 rfl ?_
                  refine ExL.nil ?_
                  refine Hand.mk (k + 1) 7 [2, 3, 4, 5, 6] ⟨agI (by first | exact (own_s1 (by omega)) | exact (own_s0 (by omega))), agI (by first | exact (own_s1 (by omega)) | exact (own_s0 (by omega))), rfl, trivial⟩ ⟨rfl, rfl, rfl, rfl, rfl, rfl, rfl, rfl, rfl, rfl, trivial⟩ (rfl) rfl (by omega) (by omega)
                · refine ExL.nil ?_
                  refine Ex.cond_f rfl ?_
                  refine Ex.skip ?_
                  refine Ex.region (ExL.pures 1 rfl ?_)
                  refine ExL.free (by first | exact fr_add64 rfl rfl rfl (by omega) | exact fr_add rfl rfl rfl) rfl rfl rfl ?_
                  refine ExL.pures 1 rfl ?_
                  refine ExL.nil ?_
                  refine Hand.mk (k + 1) 7 [2, 3, 4, 5, 6] ⟨agI (by first | exact (own_s1 (by omega)) | exact (own_s0 (by omega))), agI (by first | exact (own_s1 (by omega)) | exact (own_s0 (by omega))), rfl, trivial⟩ ⟨rfl, rfl, rfl, rfl, rfl, rfl, rfl, rfl, rfl, rfl, trivial⟩ (rfl) rfl (by omega) (by omega)
            · refine ExL.nil ?_
              refine Ex.cond_f rfl ?_
              refine Ex.exit ?_
              obtain rfl : k = q.L.length := by omega
              have hco : ownL us (likV [10, 10] q.L 0 hi us).1 q.L.length = (likV [10, 10] q.L 0 hi us).2.1 := hW.cost hne
              refine Ex.regSeq (ExL.pures 3 rfl ?_)
              refine ExL.op rfl (op_ret rfl rfl rfl (c_iWays [10, 10] (by first | assumption | exact nums2) _ _ (by omega) (sureV [10, 10] q.L 0 hi).1 (by assumption) _ _ (by omega) 0 hi) (fun w hw => ⟨Reads.get (Reads.row (i := 4) rfl) w hw, Reads.get (Reads.row (i := 0) rfl) w hw⟩) rfl rfl (fun x67 hx67 => ?_))
              refine ExL.pures 5 rfl ?_
              refine ExL.nil ?_
              refine Ex.regSeq (ExL.pures 2 rfl ?_)
              refine ExL.free (fr_eql_t rfl rfl rfl (hco)) rfl rfl rfl ?_
              refine ExL.pures 4 rfl ?_
              refine ExL.bool (d := 400) rfl (fun hb68 => ?_) (fun hb68 => ?_)
              · replace hb68 := nb_t hb68
                refine ExL.pures 7 rfl ?_
                refine ExL.free (fr_eql_t rfl rfl rfl ((hW.again hne).1)) rfl rfl rfl ?_
                refine ExL.pures 4 rfl ?_
                refine ExL.free (fr_geq_t rfl rfl rfl ((hW.again hne).2)) rfl rfl rfl ?_
                refine ExL.pures 2 rfl ?_
                refine ExL.nil ?_
                refine Ex.ret ?_
                refine RetQ.mk () rfl (.tmp rfl .nil) (rfl) [] (rfl) rfl (trivial)
              · replace hb68 := nb_f hb68
                refine ExL.pures 2 rfl ?_
                refine ExL.free (fr_geq_t rfl rfl rfl (hW.own hne (by assumption))) rfl rfl rfl ?_
                refine ExL.pures 4 rfl ?_
                refine ExL.free (fr_eql_t rfl rfl rfl ((hW.again hne).1)) rfl rfl rfl ?_
                refine ExL.pures 4 rfl ?_
                refine ExL.free (fr_geq_t rfl rfl rfl ((hW.again hne).2)) rfl rfl rfl ?_
                refine ExL.pures 2 rfl ?_
                refine ExL.nil ?_
                refine Ex.ret ?_
                refine RetQ.mk () rfl (.tmp rfl .nil) (rfl) [] (rfl) rfl (trivial)
end Go.Proofs.Ytdfgbocmjgjclaa
