/- What these functions of the program hand back, each proved by walking its operations. -/
import Derived.Test.YtjopackngkfdhaaProg
import Derived.Test.YtjopackngkfdhaaFw
import Derived.Test.YtjopackngkfdhaaGN
set_option linter.unusedVariables false
set_option linter.unusedSimpArgs false
set_option maxRecDepth 4000
namespace Go.Proofs.Ytjopackngkfdhaa
open Go Go.Sx Go.RowKit Go.W Go.Proofs
attribute [local irreducible] Ex ExL ExD Op1 Free RetQ MutQ Reads CellO SegO LoadsAs
theorem e_71 : Enters Try.prog 71 := Enters.of Try.func71 rfl
theorem c_iFirstWrong (d : VDev) (hk : OkDev d) (Ad : Option Addr) (cd : Nat) (hAd : Ad = none → cd = 0) (hdl : d.stack.length ≤ 1048576) (l : List VNote) (hok : ∀ x ∈ l, OkNote x) (Al : Option Addr) (cl : Nat) (hll : l.length ≤ maxLen) : Ret Try.prog 71 [.agg (encV Ad cd d).toArray, .slice Al l.length cl] (fun w => Rd w Ad (d.stack.flatMap (eI .u8)) ∧ Rd w Al (l.flatMap encN)) (fun x : Unit => .tuple #[.int .i64 (firstWrong d l).1, .int .i64 (firstWrong d l).2]) (fun x => []) (fun x => True) := by
  refine Ret.of e_71 Try.func71 rfl Try.ntmps71 rfl rfl (fun w hpre => ?_)
  have hd := hpre.1.base
  have hl := hpre.2.base
  have hm0 : maxLen = 9223372036854775807 := rfl
  refine Ex.regSeq (ExL.pures 0 rfl ?_)
  refine ExL.op rfl (op_box rfl rfl rfl rfl rfl (fun b1 => ?_))
  refine ExL.pures 2 rfl ?_
  refine ExL.nil ?_
  refine Ex.seq ?_
  refine Ex.block ?_
  refine Ex.regSeq (ExL.pures 0 rfl ?_)
  refine ExL.free (fr_loadN rfl rfl rfl rfl rfl (SegO.whole (i := 0) rfl)) rfl rfl rfl ?_
  refine ExL.op rfl (op_ret rfl rfl rfl (c_iValidDevice d (by assumption) _ _) (Reads.get (Reads.old hd)) rfl rfl (fun x2 hx2 => ?_))
  refine ExL.pures 2 rfl ?_
  refine ExL.nil ?_
  refine Ex.cond rfl (fun hb3 => ?_) (fun hb3 => ?_)
  · replace hb3 := nb_t hb3
    refine Ex.regSeq (ExL.pures 2 rfl ?_)
    refine ExL.nil ?_
    refine Ex.ret ?_
    refine RetQ.mk () rfl (.tmp rfl (.tmp rfl .nil)) (t2 (vI (by first | (rw [fw_bad (by assumption)]) | (rw [fw_long (by assumption) (by assumption)]) | (rw [fw_on (by assumption) (by assumption), firstB_hit (k := k) (by omega) hall (badN_t (by first | exact .inl (by assumption) | exact .inr (.inl (by assumption)) | exact .inr (.inr (nsame (by assumption))) | exact .inr (.inr (.inl (by assumption))) | exact .inr (.inr (.inr (by simp_all)))))]; rfl) | (rw [fw_on (by assumption) (by assumption), firstB_none (k := k) (by omega) hall]; rfl))) (vI (by first | (rw [fw_bad (by assumption)]) | (rw [fw_long (by assumption) (by assumption)]) | (rw [fw_on (by assumption) (by assumption), firstB_hit (k := k) (by omega) hall (badN_t (by first | exact .inl (by assumption) | exact .inr (.inl (by assumption)) | exact .inr (.inr (nsame (by assumption))) | exact .inr (.inr (.inl (by assumption))) | exact .inr (.inr (.inr (by simp_all)))))]; rfl) | (rw [fw_on (by assumption) (by assumption), firstB_none (k := k) (by omega) hall]; rfl)))) [] (rfl) rfl (trivial)
  · replace hb3 := nb_f hb3
    refine Ex.regSeq (ExL.pures 2 rfl ?_)
    refine ExL.gtr rfl rfl rfl rfl rfl rfl (fun h4 => ?_) (fun h4 => ?_)
    · refine ExL.pures 1 rfl ?_
      refine ExL.nil ?_
      refine Ex.cond_t rfl ?_
      refine Ex.regSeq (ExL.pures 2 rfl ?_)
      refine ExL.nil ?_
      refine Ex.ret ?_
      refine RetQ.mk () rfl (.tmp rfl (.tmp rfl .nil)) (t2 (vI (by first | (rw [fw_bad (by assumption)]) | (rw [fw_long (by assumption) (by assumption)]) | (rw [fw_on (by assumption) (by assumption), firstB_hit (k := k) (by omega) hall (badN_t (by first | exact .inl (by assumption) | exact .inr (.inl (by assumption)) | exact .inr (.inr (nsame (by assumption))) | exact .inr (.inr (.inl (by assumption))) | exact .inr (.inr (.inr (by simp_all)))))]; rfl) | (rw [fw_on (by assumption) (by assumption), firstB_none (k := k) (by omega) hall]; rfl))) (vI (by first | (rw [fw_bad (by assumption)]) | (rw [fw_long (by assumption) (by assumption)]) | (rw [fw_on (by assumption) (by assumption), firstB_hit (k := k) (by omega) hall (badN_t (by first | exact .inl (by assumption) | exact .inr (.inl (by assumption)) | exact .inr (.inr (nsame (by assumption))) | exact .inr (.inr (.inl (by assumption))) | exact .inr (.inr (.inr (by simp_all)))))]; rfl) | (rw [fw_on (by assumption) (by assumption), firstB_none (k := k) (by omega) hall]; rfl)))) [] (rfl) rfl (trivial)
    · refine ExL.pures 1 rfl ?_
      refine ExL.nil ?_
      refine Ex.cond_f rfl ?_
      refine Ex.skip ?_
      refine Ex.regSeq (ExL.pures 0 rfl ?_)
      refine ExL.free (fr_loadN rfl rfl rfl rfl rfl (SegO.whole (i := 0) rfl)) rfl rfl rfl ?_
      refine ExL.op rfl (op_ret rfl rfl rfl (c_cloneDevice d _ _ (by omega)) (Reads.get (Reads.old hd)) rfl rfl (fun x5 hx5 => ?_))
      refine ExL.op rfl (op_alloc rfl rfl rfl rfl rfl (fun b6 => ?_))
      refine ExL.op rfl (op_storeC (i := 0) rfl rfl rfl rfl rfl rfl rfl rfl rfl rfl ?_)
      refine ExL.nil ?_
      refine Ex.seq ?_
      refine Ex.regSeq (ExL.pures 3 rfl ?_)
      refine ExL.nil ?_
      refine Ex.block ?_
      refine Ex.loopK (X := Nat) (fun k => [(23, .int .i64 k)]) (fun k => [.blk b6 (encV x5.1 x5.2 (nowN d l k)) 38, .row (.slice x5.1 (nowN d l k).stack.length x5.2) 5 1 (nowN d l k).stack.length ((nowN d l k).stack.flatMap (eI .u8))]) (fun k => k ≤ l.length ∧ (∀ i, i < k → badN d l i = false) ∧ OkDev (nowN d l k) ∧ validDev (nowN d l k) = true) (fun k => l.length - k) 0 [(6, _), (21, _), (22, _)] [] 3 [0, 1] ⟨rfl, trivial⟩ ⟨rfl, rfl, rfl, trivial⟩ (rfl) rfl ⟨Nat.zero_le _, fun i hi => by omega, hk, by assumption⟩ (fun k hI => ?_)
      have hI : k ≤ l.length ∧ (∀ i, i < k → badN d l i = false) ∧ OkDev (nowN d l k) ∧ validDev (nowN d l k) = true := hI
      obtain ⟨hkl, hall, hnk, hnv⟩ := hI
      have hal : ∀ i, i < l.length → OkNote (l.getD i zN) := fun i hi => all_at hok _ hi
      have hdd := fun h => do_ok (a := (l.getD k zN).act) hnk hnv h
      refine Ex.regSeq (ExL.pures 0 rfl ?_)
      refine ExL.lss rfl rfl rfl rfl rfl rfl (fun h7 => ?_) (fun h7 => ?_)
      · refine ExL.nil ?_
        refine Ex.seq ?_
        refine Ex.cond_t rfl ?_
        refine Ex.skip ?_
        refine Ex.seq ?_
        refine Ex.block ?_
        refine Ex.regSeq (ExL.pures 1 rfl ?_)
        refine ExL.free (fr_indexAddrF (Reads.old hl) encN_len rfl rfl rfl rfl rfl rfl (by omega)) rfl rfl rfl ?_
        refine ExL.free (fr_loadN rfl rfl rfl rfl rfl (by first | exact segN (Reads.old hl) encN_len rfl zN (by omega) | exact segF (Reads.old hl) encN_len rfl zN (by omega))) rfl rfl rfl ?_
        refine ExL.op rfl (op_alloc rfl rfl rfl rfl rfl (fun b8 => ?_))
        refine ExL.pures 1 rfl ?_
        refine ExL.op rfl (op_storeC (i := 0) rfl rfl rfl rfl rfl rfl rfl rfl rfl rfl ?_)
        refine ExL.nil ?_
        refine Ex.seq ?_
        refine Ex.regSeq (ExL.pures 1 rfl ?_)
        refine ExL.free (fr_loadN rfl rfl rfl rfl rfl (SegO.part (i := 0) 2 rfl)) rfl rfl rfl ?_
        refine ExL.op rfl (op_ret rfl rfl rfl (c_ValidAct _) (fun _ _ => trivial) rfl rfl (fun x9 hx9 => ?_))
        refine ExL.pures 1 rfl ?_
        refine ExL.nil ?_
        refine Ex.cond rfl (fun hb10 => ?_) (fun hb10 => ?_)
        · replace hb10 := nb_t hb10
          refine Ex.regSeq (ExL.pures 3 rfl ?_)
          refine ExL.nil ?_
          refine Ex.ret ?_
          refine RetQ.mk () rfl (.tmp rfl (.tmp rfl .nil)) (t2 (vI (by first | (rw [fw_bad (by assumption)]) | (rw [fw_long (by assumption) (by assumption)]) | (rw [fw_on (by assumption) (by assumption), firstB_hit (k := k) (by omega) hall (badN_t (by first | exact .inl (by assumption) | exact .inr (.inl (by assumption)) | exact .inr (.inr (nsame (by assumption))) | exact .inr (.inr (.inl (by assumption))) | exact .inr (.inr (.inr (by simp_all)))))]; rfl) | (rw [fw_on (by assumption) (by assumption), firstB_none (k := k) (by omega) hall]; rfl))) (vI (by first | (rw [fw_bad (by assumption)]) | (rw [fw_long (by assumption) (by assumption)]) | (rw [fw_on (by assumption) (by assumption), firstB_hit (k := k) (by omega) hall (badN_t (by first | exact .inl (by assumption) | exact .inr (.inl (by assumption)) | exact .inr (.inr (nsame (by assumption))) | exact .inr (.inr (.inl (by assumption))) | exact .inr (.inr (.inr (by simp_all)))))]; rfl) | (rw [fw_on (by assumption) (by assumption), firstB_none (k := k) (by omega) hall]; rfl)))) [] (rfl) rfl (trivial)
        · replace hb10 := nb_f hb10
          refine Ex.skip ?_
          refine Ex.regSeq (ExL.pures 1 rfl ?_)
          refine ExL.free (fr_loadN rfl rfl rfl rfl rfl (SegO.part (i := 0) 2 rfl)) rfl rfl rfl ?_
          refine ExL.op rfl (op_mut rfl rfl rfl (c_do (nowN d l k) (by assumption) (by assumption) _ _ _ (l.getD k zN).act (by first | assumption | simp_all)) (perm_lt (i := 1) (j := 2) rfl rfl rfl) (trivial) rfl rfl (fun x11 hx11 => ?_))
          refine ExL.pures 5 rfl ?_
          refine ExL.nil ?_
          refine Ex.regSeq (ExL.pures 1 rfl ?_)
          refine ExL.neq rfl rfl rfl rfl rfl rfl (fun h12 => ?_) (fun h12 => ?_)
          · refine ExL.pures 10 rfl ?_
            refine ExL.nil ?_
            refine Ex.cond_t rfl ?_
            refine Ex.regSeq (ExL.pures 3 rfl ?_)
            refine ExL.nil ?_
            refine Ex.ret ?_
            refine RetQ.mk () rfl (.tmp rfl (.tmp rfl .nil)) (t2 (vI (by first | (rw [fw_bad (by assumption)]) | (rw [fw_long (by assumption) (by assumption)]) | (rw [fw_on (by assumption) (by assumption), firstB_hit (k := k) (by omega) hall (badN_t (by first | exact .inl (by assumption) | exact .inr (.inl (by assumption)) | exact .inr (.inr (nsame (by assumption))) | exact .inr (.inr (.inl (by assumption))) | exact .inr (.inr (.inr (by simp_all)))))]; rfl) | (rw [fw_on (by assumption) (by assumption), firstB_none (k := k) (by omega) hall]; rfl))) (vI (by first | (rw [fw_bad (by assumption)]) | (rw [fw_long (by assumption) (by assumption)]) | (rw [fw_on (by assumption) (by assumption), firstB_hit (k := k) (by omega) hall (badN_t (by first | exact .inl (by assumption) | exact .inr (.inl (by assumption)) | exact .inr (.inr (nsame (by assumption))) | exact .inr (.inr (.inl (by assumption))) | exact .inr (.inr (.inr (by simp_all)))))]; rfl) | (rw [fw_on (by assumption) (by assumption), firstB_none (k := k) (by omega) hall]; rfl)))) [] (rfl) rfl (trivial)
          · refine ExL.pures 1 rfl ?_
            refine ExL.free (fr_loadN rfl rfl rfl rfl rfl (SegO.whole (i := 2) rfl)) rfl rfl rfl ?_
            refine ExL.pures 1 rfl ?_
            refine ExL.free (fr_loadN rfl rfl rfl rfl rfl (SegO.part (i := 2) 2 rfl)) rfl rfl rfl ?_
            refine ExL.pures 1 rfl ?_
            refine ExL.free (fr_loadN rfl rfl rfl rfl rfl (SegO.part (i := 0) 8 rfl)) rfl rfl rfl ?_
            refine ExL.pures 1 rfl ?_
            refine ExL.free (fr_build (cells := encN ⟨(l.getD k zN).act, (doV (nowN d l k) (l.getD k zN).act).1.shows, (doV (nowN d l k) (l.getD k zN).act).2.1⟩) rfl rfl rfl (by kernel_rfl)) rfl rfl rfl ?_
            refine ExL.free (fr_neq_rec (eq_Note (l.getD k zN) ⟨(l.getD k zN).act, (doV (nowN d l k) (l.getD k zN).act).1.shows, (doV (nowN d l k) (l.getD k zN).act).2.1⟩) rfl rfl rfl (by kernel_rfl)) rfl rfl rfl ?_
            refine ExL.pures 1 rfl ?_
            refine ExL.nil ?_
            refine Ex.cond rfl (fun hb13 => ?_) (fun hb13 => ?_)
            · refine Ex.regSeq (ExL.pures 3 rfl ?_)
              refine ExL.nil ?_
              refine Ex.ret ?_
              refine RetQ.mk () rfl (.tmp rfl (.tmp rfl .nil)) (t2 (vI (by first | (rw [fw_bad (by assumption)]) | (rw [fw_long (by assumption) (by assumption)]) | (rw [fw_on (by assumption) (by assumption), firstB_hit (k := k) (by omega) hall (badN_t (by first | exact .inl (by assumption) | exact .inr (.inl (by assumption)) | exact .inr (.inr (nsame (by assumption))) | exact .inr (.inr (.inl (by assumption))) | exact .inr (.inr (.inr (by simp_all)))))]; rfl) | (rw [fw_on (by assumption) (by assumption), firstB_none (k := k) (by omega) hall]; rfl))) (vI (by first | (rw [fw_bad (by assumption)]) | (rw [fw_long (by assumption) (by assumption)]) | (rw [fw_on (by assumption) (by assumption), firstB_hit (k := k) (by omega) hall (badN_t (by first | exact .inl (by assumption) | exact .inr (.inl (by assumption)) | exact .inr (.inr (nsame (by assumption))) | exact .inr (.inr (.inl (by assumption))) | exact .inr (.inr (.inr (by simp_all)))))]; rfl) | (rw [fw_on (by assumption) (by assumption), firstB_none (k := k) (by omega) hall]; rfl)))) [] (rfl) rfl (trivial)
            · refine Ex.skip ?_
              refine Ex.region (ExL.pures 0 rfl ?_)
              refine ExL.free (by first | exact fr_add64 rfl rfl rfl (by omega) | exact fr_add rfl rfl rfl) rfl rfl rfl ?_
              refine ExL.pures 1 rfl ?_
              refine ExL.nil ?_
              have hys := ysame (by assumption)
              refine Hand.mk (k + 1) 3 [0, 1] ⟨rfl, trivial⟩ ⟨rfl, rfl, rfl, trivial⟩ (by rw [show nowN d l (k + 1) = (doV (nowN d l k) (l.getD k zN).act).1 from rfl, do_stack]; rfl) rfl (⟨by omega, all_snoc hall (badN_f (by rintro (h | h | h | h) <;> simp_all)), (hdd (by assumption)).1, (hdd (by assumption)).2⟩) (by omega)
      · refine ExL.nil ?_
        refine Ex.seq ?_
        refine Ex.cond_f rfl ?_
        refine Ex.exit ?_
        refine Ex.regSeq (ExL.pures 2 rfl ?_)
        refine ExL.nil ?_
        refine Ex.ret ?_
        refine RetQ.mk () rfl (.tmp rfl (.tmp rfl .nil)) (t2 (vI (by first | (rw [fw_bad (by assumption)]) | (rw [fw_long (by assumption) (by assumption)]) | (rw [fw_on (by assumption) (by assumption), firstB_hit (k := k) (by omega) hall (badN_t (by first | exact .inl (by assumption) | exact .inr (.inl (by assumption)) | exact .inr (.inr (nsame (by assumption))) | exact .inr (.inr (.inl (by assumption))) | exact .inr (.inr (.inr (by simp_all)))))]; rfl) | (rw [fw_on (by assumption) (by assumption), firstB_none (k := k) (by omega) hall]; rfl))) (vI (by first | (rw [fw_bad (by assumption)]) | (rw [fw_long (by assumption) (by assumption)]) | (rw [fw_on (by assumption) (by assumption), firstB_hit (k := k) (by omega) hall (badN_t (by first | exact .inl (by assumption) | exact .inr (.inl (by assumption)) | exact .inr (.inr (nsame (by assumption))) | exact .inr (.inr (.inl (by assumption))) | exact .inr (.inr (.inr (by simp_all)))))]; rfl) | (rw [fw_on (by assumption) (by assumption), firstB_none (k := k) (by omega) hall]; rfl)))) [] (rfl) rfl (trivial)
theorem e_69 : Enters Try.prog 69 := Enters.of Try.func69 rfl
theorem c_sFirstWrong (d : VDev) (hk : OkDev d) (Ad : Option Addr) (cd : Nat) (hAd : Ad = none → cd = 0) (hdl : d.stack.length ≤ 1048576) (l : List VNote) (hok : ∀ x ∈ l, OkNote x) (Al : Option Addr) (cl : Nat) (hll : l.length ≤ maxLen) : Ret Try.prog 69 [.agg (encV Ad cd d).toArray, .slice Al l.length cl] (fun w => Rd w Ad (d.stack.flatMap (eI .u8)) ∧ Rd w Al (l.flatMap encN)) (fun x : Unit => .tuple #[.int .i64 (firstWrong d l).1, .int .i64 (firstWrong d l).2]) (fun x => []) (fun x => True) := by
  refine Ret.of e_69 Try.func69 rfl Try.ntmps69 rfl rfl (fun w hpre => ?_)
  have hd := hpre.1.base
  have hl := hpre.2.base
  have hm0 : maxLen = 9223372036854775807 := rfl
  refine Ex.regSeq (ExL.pures 0 rfl ?_)
  refine ExL.op rfl (op_box rfl rfl rfl rfl rfl (fun b1 => ?_))
  refine ExL.pures 2 rfl ?_
  refine ExL.nil ?_
  refine Ex.seq ?_
  refine Ex.regSeq (ExL.pures 0 rfl ?_)
  refine ExL.op rfl (op_ret rfl rfl rfl (c_l07Ok d (by assumption) _ _ _) (fun w hw => ⟨Reads.get (Reads.blk (i := 0) rfl) w hw, Reads.get (Reads.old hd) w hw⟩) rfl rfl (fun x2 hx2 => ?_))
  refine ExL.pures 1 rfl ?_
  refine ExL.nil ?_
  refine Ex.cond rfl (fun hb3 => ?_) (fun hb3 => ?_)
  · replace hb3 := nb_t hb3
    refine Ex.regSeq (ExL.pures 2 rfl ?_)
    refine ExL.nil ?_
    refine Ex.ret ?_
    refine RetQ.mk () rfl (.tmp rfl (.tmp rfl .nil)) (t2 (vI (by first | (rw [fw_bad (by assumption)]) | (rw [fw_long (by assumption) (by assumption)]) | (rw [fw_on (by assumption) (by assumption), firstB_hit (k := k) (by omega) hall (badN_t (by first | exact .inl (by assumption) | exact .inr (.inl (by assumption)) | exact .inr (.inr (nsame (by assumption))) | exact .inr (.inr (.inl (by assumption))) | exact .inr (.inr (.inr (by simp_all)))))]; rfl) | (rw [fw_on (by assumption) (by assumption), firstB_none (k := k) (by omega) hall]; rfl))) (vI (by first | (rw [fw_bad (by assumption)]) | (rw [fw_long (by assumption) (by assumption)]) | (rw [fw_on (by assumption) (by assumption), firstB_hit (k := k) (by omega) hall (badN_t (by first | exact .inl (by assumption) | exact .inr (.inl (by assumption)) | exact .inr (.inr (nsame (by assumption))) | exact .inr (.inr (.inl (by assumption))) | exact .inr (.inr (.inr (by simp_all)))))]; rfl) | (rw [fw_on (by assumption) (by assumption), firstB_none (k := k) (by omega) hall]; rfl)))) [] (rfl) rfl (trivial)
  · replace hb3 := nb_f hb3
    refine Ex.skip ?_
    refine Ex.seq ?_
    refine Ex.regSeq (ExL.pures 2 rfl ?_)
    refine ExL.gtr rfl rfl rfl rfl rfl rfl (fun h4 => ?_) (fun h4 => ?_)
    · refine ExL.nil ?_
      refine Ex.cond_t rfl ?_
      refine Ex.regSeq (ExL.pures 2 rfl ?_)
      refine ExL.nil ?_
      refine Ex.ret ?_
      refine RetQ.mk () rfl (.tmp rfl (.tmp rfl .nil)) (t2 (vI (by first | (rw [fw_bad (by assumption)]) | (rw [fw_long (by assumption) (by assumption)]) | (rw [fw_on (by assumption) (by assumption), firstB_hit (k := k) (by omega) hall (badN_t (by first | exact .inl (by assumption) | exact .inr (.inl (by assumption)) | exact .inr (.inr (nsame (by assumption))) | exact .inr (.inr (.inl (by assumption))) | exact .inr (.inr (.inr (by simp_all)))))]; rfl) | (rw [fw_on (by assumption) (by assumption), firstB_none (k := k) (by omega) hall]; rfl))) (vI (by first | (rw [fw_bad (by assumption)]) | (rw [fw_long (by assumption) (by assumption)]) | (rw [fw_on (by assumption) (by assumption), firstB_hit (k := k) (by omega) hall (badN_t (by first | exact .inl (by assumption) | exact .inr (.inl (by assumption)) | exact .inr (.inr (nsame (by assumption))) | exact .inr (.inr (.inl (by assumption))) | exact .inr (.inr (.inr (by simp_all)))))]; rfl) | (rw [fw_on (by assumption) (by assumption), firstB_none (k := k) (by omega) hall]; rfl)))) [] (rfl) rfl (trivial)
    · refine ExL.nil ?_
      refine Ex.cond_f rfl ?_
      refine Ex.skip ?_
      refine Ex.regSeq (ExL.pures 0 rfl ?_)
      refine ExL.op rfl (op_ret rfl rfl rfl (c_l07Copy d _ _ _ (by first | assumption | exact (fun e => nomatch e) | (intro e; simp_all)) (by omega)) (fun w hw => ⟨Reads.get (Reads.blk (i := 0) rfl) w hw, Reads.get (Reads.old hd) w hw⟩) rfl rfl (fun x5 hx5 => ?_))
      refine ExL.op rfl (op_alloc rfl rfl rfl rfl rfl (fun b6 => ?_))
      refine ExL.op rfl (op_storeC (i := 0) rfl rfl rfl rfl rfl rfl rfl rfl rfl rfl ?_)
      refine ExL.nil ?_
      refine Ex.seq ?_
      refine Ex.regSeq (ExL.pures 1 rfl ?_)
      refine ExL.nil ?_
      refine Ex.block ?_
      refine Ex.loopK (X := Nat) (fun k => [(7, .int .i64 k)]) (fun k => [.blk b6 (encV x5.1 x5.2 (nowN d l k)) 38, .row (.slice x5.1 (nowN d l k).stack.length x5.2) 5 1 (nowN d l k).stack.length ((nowN d l k).stack.flatMap (eI .u8))]) (fun k => k ≤ l.length ∧ (∀ i, i < k → badN d l i = false) ∧ OkDev (nowN d l k) ∧ validDev (nowN d l k) = true) (fun k => l.length - k) 0 [(1, _), (6, _)] [] 3 [0, 1] ⟨rfl, trivial⟩ ⟨rfl, rfl, trivial⟩ (rfl) rfl ⟨Nat.zero_le _, fun i hi => by omega, hk, by assumption⟩ (fun k hI => ?_)
      have hI : k ≤ l.length ∧ (∀ i, i < k → badN d l i = false) ∧ OkDev (nowN d l k) ∧ validDev (nowN d l k) = true := hI
      obtain ⟨hkl, hall, hnk, hnv⟩ := hI
      have hal : ∀ i, i < l.length → OkNote (l.getD i zN) := fun i hi => all_at hok _ hi
      have hdd := fun h => do_ok (a := (l.getD k zN).act) hnk hnv h
      refine Ex.seq ?_
      refine Ex.regSeq (ExL.pures 3 rfl ?_)
      refine ExL.lss rfl rfl rfl rfl rfl rfl (fun h7 => ?_) (fun h7 => ?_)
      · refine ExL.nil ?_
        refine Ex.cond_t rfl ?_
        refine Ex.skip ?_
        refine Ex.seq ?_
        refine Ex.block ?_
        refine Ex.seq ?_
        refine Ex.regSeq (ExL.pures 2 rfl ?_)
        refine ExL.free (fr_indexAddrF (Reads.old hl) encN_len rfl rfl rfl rfl rfl rfl (by omega)) rfl rfl rfl ?_
        refine ExL.free (fr_fieldAddrF (i := (↑k : Int).toNat) (Reads.old hl) encN_len rfl rfl rfl (by omega) rfl rfl rfl rfl) rfl rfl rfl ?_
        refine ExL.free (fr_loadN rfl rfl rfl rfl rfl (by first | exact partN (Reads.old hl) encN_len zN 0 2 rfl rfl (by omega) rfl | exact partF (Reads.old hl) encN_len zN 0 2 rfl rfl (by omega) rfl)) rfl rfl rfl ?_
        refine ExL.op rfl (op_ret rfl rfl rfl (c_l07Act _) (fun _ _ => trivial) rfl rfl (fun x8 hx8 => ?_))
        refine ExL.pures 1 rfl ?_
        refine ExL.nil ?_
        refine Ex.cond rfl (fun hb9 => ?_) (fun hb9 => ?_)
        · replace hb9 := nb_t hb9
          refine Ex.regSeq (ExL.pures 3 rfl ?_)
          refine ExL.nil ?_
          refine Ex.ret ?_
          refine RetQ.mk () rfl (.tmp rfl (.tmp rfl .nil)) (t2 (vI (by first | (rw [fw_bad (by assumption)]) | (rw [fw_long (by assumption) (by assumption)]) | (rw [fw_on (by assumption) (by assumption), firstB_hit (k := k) (by omega) hall (badN_t (by first | exact .inl (by assumption) | exact .inr (.inl (by assumption)) | exact .inr (.inr (nsame (by assumption))) | exact .inr (.inr (.inl (by assumption))) | exact .inr (.inr (.inr (by simp_all)))))]; rfl) | (rw [fw_on (by assumption) (by assumption), firstB_none (k := k) (by omega) hall]; rfl))) (vI (by first | (rw [fw_bad (by assumption)]) | (rw [fw_long (by assumption) (by assumption)]) | (rw [fw_on (by assumption) (by assumption), firstB_hit (k := k) (by omega) hall (badN_t (by first | exact .inl (by assumption) | exact .inr (.inl (by assumption)) | exact .inr (.inr (nsame (by assumption))) | exact .inr (.inr (.inl (by assumption))) | exact .inr (.inr (.inr (by simp_all)))))]; rfl) | (rw [fw_on (by assumption) (by assumption), firstB_none (k := k) (by omega) hall]; rfl)))) [] (rfl) rfl (trivial)
        · replace hb9 := nb_f hb9
          refine Ex.skip ?_
          refine Ex.regSeq (ExL.pures 2 rfl ?_)
          refine ExL.free (fr_indexAddrF (Reads.old hl) encN_len rfl rfl rfl rfl rfl rfl (by omega)) rfl rfl rfl ?_
          refine ExL.free (fr_fieldAddrF (i := (↑k : Int).toNat) (Reads.old hl) encN_len rfl rfl rfl (by omega) rfl rfl rfl rfl) rfl rfl rfl ?_
          refine ExL.free (fr_loadN rfl rfl rfl rfl rfl (by first | exact partN (Reads.old hl) encN_len zN 0 2 rfl rfl (by omega) rfl | exact partF (Reads.old hl) encN_len zN 0 2 rfl rfl (by omega) rfl)) rfl rfl rfl ?_
          refine ExL.op rfl (op_mut rfl rfl rfl (c_l07Do (nowN d l k) (by assumption) (by assumption) _ _ _ (l.getD k zN).act (by first | assumption | simp_all)) (perm_lt (i := 0) (j := 1) rfl rfl rfl) (trivial) rfl rfl (fun x10 hx10 => ?_))
          refine ExL.pures 5 rfl ?_
          refine ExL.nil ?_
          refine Ex.drawSeqM rfl ?_
          refine ExD.take (i := 0) rfl (by kernel_rfl) (pureVal_ok rfl) ((List.Sublist.refl _)) rfl rfl rfl ?_
          refine ExD.cmp_neq (i := 1) rfl (by kernel_rfl) rfl rfl rfl ((List.Sublist.refl _)) rfl rfl rfl (fun h11 => ?_) (fun h11 => ?_)
          · refine ExD.take (i := 2) rfl (by kernel_rfl) (pureVal_ok rfl) ((List.Sublist.refl _)) rfl rfl rfl ?_
            refine ExD.pass (i := 3) rfl (by kernel_rfl) ((List.Sublist.refl _)) rfl rfl rfl ?_
            refine ExD.pass (i := 4) rfl (by kernel_rfl) ((List.Sublist.refl _)) rfl rfl rfl ?_
            refine ExD.pass (i := 5) rfl (by kernel_rfl) ((List.Sublist.refl _)) rfl rfl rfl ?_
            refine ExD.pass (i := 6) rfl (by kernel_rfl) ((List.Sublist.refl _)) rfl rfl rfl ?_
            refine ExD.pass (i := 7) rfl (by kernel_rfl) ((List.Sublist.refl _)) rfl rfl rfl ?_
            refine ExD.pass (i := 8) rfl (by kernel_rfl) ((List.Sublist.refl _)) rfl rfl rfl ?_
            refine ExD.pass (i := 9) rfl (by kernel_rfl) ((List.Sublist.refl _)) rfl rfl rfl ?_
            refine ExD.take (i := 10) rfl (by kernel_rfl) (pureVal_ok rfl) ((List.Sublist.refl _)) rfl rfl rfl ?_
            refine ExD.take (i := 11) rfl (by kernel_rfl) (pureVal_ok rfl) ((List.Sublist.refl _)) rfl rfl rfl ?_
            refine ExD.pass (i := 12) rfl (by kernel_rfl) ((List.Sublist.refl _)) rfl rfl rfl ?_
            refine ExD.pass (i := 13) rfl (by kernel_rfl) ((List.Sublist.refl _)) rfl rfl rfl ?_
            refine ExD.pass (i := 14) rfl (by kernel_rfl) ((List.Sublist.refl _)) rfl rfl rfl ?_
            refine ExD.pass (i := 15) rfl (by kernel_rfl) ((List.Sublist.refl _)) rfl rfl rfl ?_
            refine ExD.pass (i := 16) rfl (by kernel_rfl) ((List.Sublist.refl _)) rfl rfl rfl ?_
            refine ExD.pass (i := 17) rfl (by kernel_rfl) ((List.Sublist.refl _)) rfl rfl rfl ?_
            refine ExD.pass (i := 18) rfl (by kernel_rfl) ((List.Sublist.refl _)) rfl rfl rfl ?_
            refine ExD.pass (i := 19) rfl (by kernel_rfl) ((List.Sublist.refl _)) rfl rfl rfl ?_
            refine ExD.take (i := 20) rfl (by kernel_rfl) (pureVal_ok rfl) ((List.Sublist.refl _)) rfl rfl rfl ?_
            refine ExD.done (by kernel_rfl) ?_
            refine Ex.cond_t rfl ?_
            refine Ex.regSeq (ExL.pures 3 rfl ?_)
            refine ExL.nil ?_
            refine Ex.ret ?_
            refine RetQ.mk () rfl (.tmp rfl (.tmp rfl .nil)) (t2 (vI (by first | (rw [fw_bad (by assumption)]) | (rw [fw_long (by assumption) (by assumption)]) | (rw [fw_on (by assumption) (by assumption), firstB_hit (k := k) (by omega) hall (badN_t (by first | exact .inl (by assumption) | exact .inr (.inl (by assumption)) | exact .inr (.inr (nsame (by assumption))) | exact .inr (.inr (.inl (by assumption))) | exact .inr (.inr (.inr (by simp_all)))))]; rfl) | (rw [fw_on (by assumption) (by assumption), firstB_none (k := k) (by omega) hall]; rfl))) (vI (by first | (rw [fw_bad (by assumption)]) | (rw [fw_long (by assumption) (by assumption)]) | (rw [fw_on (by assumption) (by assumption), firstB_hit (k := k) (by omega) hall (badN_t (by first | exact .inl (by assumption) | exact .inr (.inl (by assumption)) | exact .inr (.inr (nsame (by assumption))) | exact .inr (.inr (.inl (by assumption))) | exact .inr (.inr (.inr (by simp_all)))))]; rfl) | (rw [fw_on (by assumption) (by assumption), firstB_none (k := k) (by omega) hall]; rfl)))) [] (rfl) rfl (trivial)
          · refine ExD.take (i := 2) rfl (by kernel_rfl) (pureVal_ok rfl) ((List.Sublist.refl _)) rfl rfl rfl ?_
            refine ExD.take (i := 3) rfl (by kernel_rfl) (pureVal_ok rfl) ((List.Sublist.refl _)) rfl rfl rfl ?_
            refine ExD.take (i := 4) rfl (by kernel_rfl) (pureVal_ok rfl) ((List.Sublist.refl _)) rfl rfl rfl ?_
            refine ExD.take (i := 5) rfl (by kernel_rfl) (pureVal_ok rfl) ((List.Sublist.refl _)) rfl rfl rfl ?_
            refine ExD.take (i := 6) rfl (by kernel_rfl) (fr_indexAddrF (Reads.old hl) encN_len rfl rfl rfl rfl rfl rfl (by omega)) ((List.Sublist.refl _)) rfl rfl rfl ?_
            refine ExD.take (i := 7) rfl (by kernel_rfl) (fr_fieldAddrF (i := (↑k : Int).toNat) (Reads.old hl) encN_len rfl rfl rfl (by omega) rfl rfl rfl rfl) ((List.Sublist.refl _)) rfl rfl rfl ?_
            refine ExD.take (i := 8) rfl (by kernel_rfl) (fr_load rfl rfl rfl rfl (by first | exact cellN (Reads.old hl) encN_len zN 10 rfl (by omega) rfl | exact cellF (Reads.old hl) encN_len zN 10 rfl (by omega) rfl)) ((List.Sublist.refl _)) rfl rfl rfl ?_
            refine ExD.cmp_neq (i := 9) rfl (by kernel_rfl) rfl rfl rfl ((List.Sublist.refl _)) rfl rfl rfl (fun h12 => ?_) (fun h12 => ?_)
            · refine ExD.take (i := 10) rfl (by kernel_rfl) (pureVal_ok rfl) ((List.Sublist.refl _)) rfl rfl rfl ?_
              refine ExD.take (i := 11) rfl (by kernel_rfl) (pureVal_ok rfl) ((List.Sublist.refl _)) rfl rfl rfl ?_
              refine ExD.pass (i := 12) rfl (by kernel_rfl) ((List.Sublist.refl _)) rfl rfl rfl ?_
              refine ExD.pass (i := 13) rfl (by kernel_rfl) ((List.Sublist.refl _)) rfl rfl rfl ?_
              refine ExD.pass (i := 14) rfl (by kernel_rfl) ((List.Sublist.refl _)) rfl rfl rfl ?_
              refine ExD.pass (i := 15) rfl (by kernel_rfl) ((List.Sublist.refl _)) rfl rfl rfl ?_
              refine ExD.pass (i := 16) rfl (by kernel_rfl) ((List.Sublist.refl _)) rfl rfl rfl ?_
              refine ExD.pass (i := 17) rfl (by kernel_rfl) ((List.Sublist.refl _)) rfl rfl rfl ?_
              refine ExD.pass (i := 18) rfl (by kernel_rfl) ((List.Sublist.refl _)) rfl rfl rfl ?_
              refine ExD.pass (i := 19) rfl (by kernel_rfl) ((List.Sublist.refl _)) rfl rfl rfl ?_
              refine ExD.take (i := 20) rfl (by kernel_rfl) (pureVal_ok rfl) ((List.Sublist.refl _)) rfl rfl rfl ?_
              refine ExD.done (by kernel_rfl) ?_
              refine Ex.cond_t rfl ?_
              refine Ex.regSeq (ExL.pures 3 rfl ?_)
              refine ExL.nil ?_
              refine Ex.ret ?_
              refine RetQ.mk () rfl (.tmp rfl (.tmp rfl .nil)) (t2 (vI (by first | (rw [fw_bad (by assumption)]) | (rw [fw_long (by assumption) (by assumption)]) | (rw [fw_on (by assumption) (by assumption), firstB_hit (k := k) (by omega) hall (badN_t (by first | exact .inl (by assumption) | exact .inr (.inl (by assumption)) | exact .inr (.inr (nsame (by assumption))) | exact .inr (.inr (.inl (by assumption))) | exact .inr (.inr (.inr (by simp_all)))))]; rfl) | (rw [fw_on (by assumption) (by assumption), firstB_none (k := k) (by omega) hall]; rfl))) (vI (by first | (rw [fw_bad (by assumption)]) | (rw [fw_long (by assumption) (by assumption)]) | (rw [fw_on (by assumption) (by assumption), firstB_hit (k := k) (by omega) hall (badN_t (by first | exact .inl (by assumption) | exact .inr (.inl (by assumption)) | exact .inr (.inr (nsame (by assumption))) | exact .inr (.inr (.inl (by assumption))) | exact .inr (.inr (.inr (by simp_all)))))]; rfl) | (rw [fw_on (by assumption) (by assumption), firstB_none (k := k) (by omega) hall]; rfl)))) [] (rfl) rfl (trivial)
            · refine ExD.take (i := 10) rfl (by kernel_rfl) (pureVal_ok rfl) ((List.Sublist.refl _)) rfl rfl rfl ?_
              refine ExD.take (i := 11) rfl (by kernel_rfl) (pureVal_ok rfl) ((List.Sublist.refl _)) rfl rfl rfl ?_
              refine ExD.take (i := 12) rfl (by kernel_rfl) (pureVal_ok rfl) ((List.Sublist.refl _)) rfl rfl rfl ?_
              refine ExD.take (i := 13) rfl (by kernel_rfl) (fr_loadN rfl rfl rfl rfl rfl (SegO.part (i := 0) 8 rfl)) ((List.Sublist.refl _)) rfl rfl rfl ?_
              refine ExD.take (i := 14) rfl (by kernel_rfl) (pureVal_ok rfl) ((List.Sublist.refl _)) rfl rfl rfl ?_
              refine ExD.take (i := 15) rfl (by kernel_rfl) (pureVal_ok rfl) ((List.Sublist.refl _)) rfl rfl rfl ?_
              refine ExD.take (i := 16) rfl (by kernel_rfl) (fr_indexAddrF (Reads.old hl) encN_len rfl rfl rfl rfl rfl rfl (by omega)) ((List.Sublist.refl _)) rfl rfl rfl ?_
              refine ExD.take (i := 17) rfl (by kernel_rfl) (fr_fieldAddrF (i := (↑k : Int).toNat) (Reads.old hl) encN_len rfl rfl rfl (by omega) rfl rfl rfl rfl) ((List.Sublist.refl _)) rfl rfl rfl ?_
              refine ExD.take (i := 18) rfl (by kernel_rfl) (fr_loadN rfl rfl rfl rfl rfl (by first | exact partN (Reads.old hl) encN_len zN 2 8 rfl rfl (by omega) rfl | exact partF (Reads.old hl) encN_len zN 2 8 rfl rfl (by omega) rfl)) ((List.Sublist.refl _)) rfl rfl rfl ?_
              refine ExD.take (i := 19) rfl (by kernel_rfl) (fr_neq_ints ((doV (nowN d l k) (l.getD k zN).act).1).shows.l (l.getD k zN).shows.l rfl rfl rfl rfl rfl rfl rfl rfl rfl rfl) ((List.Sublist.refl _)) rfl rfl rfl ?_
              refine ExD.take (i := 20) rfl (by kernel_rfl) (pureVal_ok rfl) ((List.Sublist.refl _)) rfl rfl rfl ?_
              refine ExD.done (by kernel_rfl) ?_
              refine Ex.cond rfl (fun hb13 => ?_) (fun hb13 => ?_)
              · refine Ex.regSeq (ExL.pures 3 rfl ?_)
                refine ExL.nil ?_
                refine Ex.ret ?_
                refine RetQ.mk () rfl (.tmp rfl (.tmp rfl .nil)) (t2 (vI (by first | (rw [fw_bad (by assumption)]) | (rw [fw_long (by assumption) (by assumption)]) | (rw [fw_on (by assumption) (by assumption), firstB_hit (k := k) (by omega) hall (badN_t (by first | exact .inl (by assumption) | exact .inr (.inl (by assumption)) | exact .inr (.inr (nsame (by assumption))) | exact .inr (.inr (.inl (by assumption))) | exact .inr (.inr (.inr (by simp_all)))))]; rfl) | (rw [fw_on (by assumption) (by assumption), firstB_none (k := k) (by omega) hall]; rfl))) (vI (by first | (rw [fw_bad (by assumption)]) | (rw [fw_long (by assumption) (by assumption)]) | (rw [fw_on (by assumption) (by assumption), firstB_hit (k := k) (by omega) hall (badN_t (by first | exact .inl (by assumption) | exact .inr (.inl (by assumption)) | exact .inr (.inr (nsame (by assumption))) | exact .inr (.inr (.inl (by assumption))) | exact .inr (.inr (.inr (by simp_all)))))]; rfl) | (rw [fw_on (by assumption) (by assumption), firstB_none (k := k) (by omega) hall]; rfl)))) [] (rfl) rfl (trivial)
              · refine Ex.skip ?_
                refine Ex.region (ExL.pures 1 rfl ?_)
                refine ExL.free (by first | exact fr_add64 rfl rfl rfl (by omega) | exact fr_add rfl rfl rfl) rfl rfl rfl ?_
                refine ExL.pures 1 rfl ?_
                refine ExL.nil ?_
                refine Hand.mk (k + 1) 2 [0, 1] ⟨rfl, trivial⟩ ⟨rfl, rfl, trivial⟩ (by rw [show nowN d l (k + 1) = (doV (nowN d l k) (l.getD k zN).act).1 from rfl, do_stack]; rfl) rfl (⟨by omega, all_snoc hall (badN_f (by rintro (h | h | h | h) <;> simp_all)), (hdd (by assumption)).1, (hdd (by assumption)).2⟩) (by omega)
      · refine ExL.nil ?_
        refine Ex.cond_f rfl ?_
        refine Ex.exit ?_
        refine Ex.regSeq (ExL.pures 2 rfl ?_)
        refine ExL.nil ?_
        refine Ex.ret ?_
        refine RetQ.mk () rfl (.tmp rfl (.tmp rfl .nil)) (t2 (vI (by first | (rw [fw_bad (by assumption)]) | (rw [fw_long (by assumption) (by assumption)]) | (rw [fw_on (by assumption) (by assumption), firstB_hit (k := k) (by omega) hall (badN_t (by first | exact .inl (by assumption) | exact .inr (.inl (by assumption)) | exact .inr (.inr (nsame (by assumption))) | exact .inr (.inr (.inl (by assumption))) | exact .inr (.inr (.inr (by simp_all)))))]; rfl) | (rw [fw_on (by assumption) (by assumption), firstB_none (k := k) (by omega) hall]; rfl))) (vI (by first | (rw [fw_bad (by assumption)]) | (rw [fw_long (by assumption) (by assumption)]) | (rw [fw_on (by assumption) (by assumption), firstB_hit (k := k) (by omega) hall (badN_t (by first | exact .inl (by assumption) | exact .inr (.inl (by assumption)) | exact .inr (.inr (nsame (by assumption))) | exact .inr (.inr (.inl (by assumption))) | exact .inr (.inr (.inr (by simp_all)))))]; rfl) | (rw [fw_on (by assumption) (by assumption), firstB_none (k := k) (by omega) hall]; rfl)))) [] (rfl) rfl (trivial)
end Go.Proofs.Ytjopackngkfdhaa
