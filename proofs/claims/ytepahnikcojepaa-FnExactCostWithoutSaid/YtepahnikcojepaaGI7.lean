/- What these functions of the program hand back, each proved by walking its operations. -/
import Derived.Test.YtepahnikcojepaaProg
import Derived.Test.YtepahnikcojepaaFw
import Derived.Test.YtepahnikcojepaaGI4
import Derived.Test.YtepahnikcojepaaGJ4
set_option linter.unusedVariables false
set_option linter.unusedSimpArgs false
set_option maxRecDepth 4000
namespace Go.Proofs.Ytepahnikcojepaa
open Go Go.Sx Go.RowKit Go.W Go.Proofs
attribute [local irreducible] Ex ExL ExD Op1 Free RetQ MutQ Reads CellO SegO LoadsAs
theorem e_40 : Enters Try.prog 40 := Enters.of Try.func40 rfl
theorem c_iWithout_f (s : List Int) (hu : Nums 255 s) (As : Option Addr) (cs : Nat) (hls : s.length ≤ maxLen) (l : List VP) (Al : Option Addr) (cl : Nat) (hll : l.length ≤ maxLen) (f : VP) (wo : Int) (hask : askS s l f = false) : Ret Try.prog 40 [.slice As s.length cs, .slice Al l.length cl, .agg (encP f).toArray, .int .i64 wo] (fun w => Rd w As (s.flatMap (eI .u8)) ∧ Rd w Al (l.flatMap encP)) (fun x : Unit => .tuple #[.int .i64 (withoutV s l f wo).1, .int .i64 (withoutV s l f wo).2]) (fun x => []) (fun x => True) := by
  refine Ret.of e_40 Try.func40 rfl Try.ntmps40 rfl rfl (fun w hpre => ?_)
  have hs := hpre.1.base
  have hl := hpre.2.base
  have hm0 : maxLen = 9223372036854775807 := rfl
  have hwt := wt_1 (f := f) (w := wo) hask
  refine Ex.regSeq (ExL.pures 0 rfl ?_)
  refine ExL.op rfl (op_box rfl rfl rfl rfl rfl (fun b1 => ?_))
  refine ExL.pures 2 rfl ?_
  refine ExL.nil ?_
  refine Ex.regSeq (ExL.pures 2 rfl ?_)
  refine ExL.free (fr_loadN rfl rfl rfl rfl rfl (SegO.whole (i := 0) rfl)) rfl rfl rfl ?_
  refine ExL.op rfl (op_ret rfl rfl rfl (c_detOf_f s (by assumption) _ _ (by omega) l _ _ (by omega) f hask) (fun w hw => ⟨Reads.get (Reads.old hs) w hw, Reads.get (Reads.old hl) w hw⟩) rfl rfl (fun x2 hx2 => ?_))
  refine ExL.pures 1 rfl ?_
  refine ExL.nil ?_
  refine Ex.seq ?_
  refine Ex.block ?_
  refine Ex.regSeq (ExL.pures 1 rfl ?_)
  refine ExL.free (fr_eql_ptr_n rfl rfl rfl rfl) rfl rfl rfl ?_
  refine ExL.pures 1 rfl ?_
  refine ExL.nil ?_
  refine Ex.cond_t rfl ?_
  refine Ex.regSeq (ExL.pures 2 rfl ?_)
  refine ExL.nil ?_
  refine Ex.ret ?_
  refine RetQ.mk () rfl (.tmp rfl (.tmp rfl .nil)) (t2 (vI (by rw [hwt]; first | done | rfl | (rw [hbc]; first | done | rfl))) (vI (by rw [hwt]; first | done | rfl))) [] (rfl) rfl (trivial)
theorem c_iWithout_t (s : List Int) (hu : Nums 255 s) (As : Option Addr) (cs : Nat) (hls : s.length ≤ maxLen) (l : List VP) (Al : Option Addr) (cl : Nat) (hll : l.length ≤ maxLen) (f : VP) (wo : Int) (hask : askS s l f = true) : Ret Try.prog 40 [.slice As s.length cs, .slice Al l.length cl, .agg (encP f).toArray, .int .i64 wo] (fun w => Rd w As (s.flatMap (eI .u8)) ∧ Rd w Al (l.flatMap encP)) (fun x : Unit => .tuple #[.int .i64 (withoutV s l f wo).1, .int .i64 (withoutV s l f wo).2]) (fun x => []) (fun x => True) := by
  refine Ret.of e_40 Try.func40 rfl Try.ntmps40 rfl rfl (fun w hpre => ?_)
  have hs := hpre.1.base
  have hl := hpre.2.base
  have hm0 : maxLen = 9223372036854775807 := rfl
  obtain ⟨hL, hf⟩ := ask_of hask
  have hLl := hL.len
  refine Ex.regSeq (ExL.pures 0 rfl ?_)
  refine ExL.op rfl (op_box rfl rfl rfl rfl rfl (fun b1 => ?_))
  refine ExL.pures 2 rfl ?_
  refine ExL.nil ?_
  refine Ex.regSeq (ExL.pures 2 rfl ?_)
  refine ExL.free (fr_loadN rfl rfl rfl rfl rfl (SegO.whole (i := 0) rfl)) rfl rfl rfl ?_
  refine ExL.op rfl (op_ret rfl rfl rfl (c_detOf_t s (by assumption) _ _ (by omega) l _ _ (by omega) f hask) (fun w hw => ⟨Reads.get (Reads.old hs) w hw, Reads.get (Reads.old hl) w hw⟩) rfl rfl (fun x2 hx2 => ?_))
  refine ExL.pures 1 rfl ?_
  refine ExL.nil ?_
  refine Ex.seq ?_
  refine Ex.block ?_
  refine Ex.regSeq (ExL.pures 1 rfl ?_)
  refine ExL.free (fr_eql_ptr_s rfl rfl rfl rfl) rfl rfl rfl ?_
  refine ExL.pures 1 rfl ?_
  refine ExL.nil ?_
  refine Ex.cond_f rfl ?_
  refine Ex.regSeq (ExL.pures 3 rfl ?_)
  refine ExL.free (by first | exact fr_sub64 rfl rfl rfl (by omega) | exact fr_sub rfl rfl rfl) rfl rfl rfl ?_
  refine ExL.op rfl (op_ret rfl rfl rfl (c_within _ _ _) (fun _ _ => trivial) rfl rfl (fun x3 hx3 => ?_))
  refine ExL.pures 2 rfl ?_
  refine ExL.nil ?_
  refine Ex.cond rfl (fun hb4 => ?_) (fun hb4 => ?_)
  · replace hb4 := nd_t hb4
    have hwt := wt_2 (f := f) (w := wo) hask (by omega)
    refine Ex.regSeq (ExL.pures 2 rfl ?_)
    refine ExL.nil ?_
    refine Ex.ret ?_
    refine RetQ.mk () rfl (.tmp rfl (.tmp rfl .nil)) (t2 (vI (by rw [hwt]; first | done | rfl | (rw [hbc]; first | done | rfl))) (vI (by rw [hwt]; first | done | rfl))) [] (rfl) rfl (trivial)
  · replace hb4 := nd_f hb4
    refine Ex.regSeq (ExL.pures 2 rfl ?_)
    refine ExL.eql rfl rfl rfl rfl rfl rfl (fun h5 => ?_) (fun h5 => ?_)
    · refine ExL.pures 1 rfl ?_
      refine ExL.nil ?_
      refine Ex.cond_t rfl ?_
      have hwt := wt_6 (f := f) (w := wo) hask (by omega) (by omega)
      refine Ex.regSeq (ExL.pures 2 rfl ?_)
      refine ExL.nil ?_
      refine Ex.ret ?_
      refine RetQ.mk () rfl (.tmp rfl (.tmp rfl .nil)) (t2 (vI (by rw [hwt]; first | done | rfl | (rw [hbc]; first | done | rfl))) (vI (by rw [hwt]; first | done | rfl))) [] (rfl) rfl (trivial)
    · refine ExL.pures 1 rfl ?_
      refine ExL.nil ?_
      refine Ex.cond_f rfl ?_
      refine Ex.skip ?_
      have hwt := wt_0 (f := f) (w := wo) hask (by omega) (by omega)
      refine Ex.regSeq (ExL.pures 2 rfl ?_)
      refine ExL.op rfl (op_ret rfl rfl rfl (c_best (fitsF s l f) l.length (by omega) x2.K hx2.1 hx2.2 _ _ _ _ _ _ _ (wo)) (fun w hw => ⟨Reads.get (Reads.blk (i := 0) rfl) w hw, Reads.get (Reads.row (i := 1) rfl) w hw, fun k hk => Reads.get (readsX (i := 2) rfl hk) w hw⟩) rfl rfl (fun x6 hx6 => ?_))
      have hbc : x6.1.cost = (btT (fitsF s l f) l.length wo l.length).2.cost := congrArg (·.cost) hx6
      refine ExL.free (fr_field rfl rfl rfl rfl rfl rfl rfl) rfl rfl rfl ?_
      refine ExL.pures 2 rfl ?_
      refine ExL.nil ?_
      refine Ex.ret ?_
      refine RetQ.mk () rfl (.tmp rfl (.tmp rfl .nil)) (t2 (vI (by rw [hwt]; first | done | rfl | (rw [hbc]; first | done | rfl))) (vI (by rw [hwt]; first | done | rfl))) [] (rfl) rfl (trivial)
theorem c_iWithout (s : List Int) (hu : Nums 255 s) (As : Option Addr) (cs : Nat) (hls : s.length ≤ maxLen) (l : List VP) (Al : Option Addr) (cl : Nat) (hll : l.length ≤ maxLen) (f : VP) (wo : Int) : Ret Try.prog 40 [.slice As s.length cs, .slice Al l.length cl, .agg (encP f).toArray, .int .i64 wo] (fun w => Rd w As (s.flatMap (eI .u8)) ∧ Rd w Al (l.flatMap encP)) (fun x : Unit => .tuple #[.int .i64 (withoutV s l f wo).1, .int .i64 (withoutV s l f wo).2]) (fun x => []) (fun x => True) := by
  cases h : askS s l f with
  | false => exact c_iWithout_f s hu As cs hls l Al cl hll f wo h
  | true => exact c_iWithout_t s hu As cs hls l Al cl hll f wo h
end Go.Proofs.Ytepahnikcojepaa
