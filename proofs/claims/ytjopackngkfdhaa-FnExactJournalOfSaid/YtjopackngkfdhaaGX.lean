/- What these functions of the program hand back, each proved by walking its operations. -/
import Derived.Test.YtjopackngkfdhaaProg
import Derived.Test.YtjopackngkfdhaaFw
import Derived.Test.YtjopackngkfdhaaGN
set_option linter.unusedVariables false
set_option linter.unusedSimpArgs false
set_option maxRecDepth 4000
namespace Go.Proofs.Ytjopackngkfdhaa
open Go Go.Sx Go.RowKit Go.W Go.Proofs
attribute [local irreducible] Ex ExL ExD Op1 Free RetQ MutQ Reads CellO SegO LoadsAs
theorem e_59 : Enters Try.prog 59 := Enters.of Try.func59 rfl
theorem c_iBatchActs (d : VDev) (hk : OkDev d) (Ad : Option Addr) (cd : Nat) (hdl : d.stack.length ≤ maxLen) (n m : Int) (hn : I64 n) (hm : I64 m) : Ret Try.prog 59 [.agg (encV Ad cd d).toArray, .int .i64 n, .int .i64 m] (fun w => Rd w Ad (d.stack.flatMap (eI .u8))) (fun x : Option Addr × Nat => .tuple #[.slice x.1 (batchV d n m).1.length x.2, .int .i64 (batchV d n m).2]) (fun x => [.row (.slice x.1 ((batchV d n m).1).length x.2) 26 2 ((batchV d n m).1).length (((batchV d n m).1).flatMap encA)]) (fun x => True) := by
  refine Ret.of e_59 Try.func59 rfl Try.ntmps59 rfl rfl (fun w hpre => ?_)
  have hd := hpre.base
  have hk2 := hk
  obtain ⟨hl, hu, ha, hpp, htt⟩ := hk2
  unfold I64 at hn hm
  have hz := size_bd hu d.stack.length
  rw [List.take_length] at hz
  have hm0 : maxLen = 9223372036854775807 := rfl
  refine Ex.regSeq (ExL.pures 0 rfl ?_)
  refine ExL.op rfl (op_box rfl rfl rfl rfl rfl (fun b1 => ?_))
  refine ExL.pures 2 rfl ?_
  refine ExL.nil ?_
  refine Ex.seq ?_
  refine Ex.block ?_
  refine Ex.regSeq (ExL.pures 0 rfl ?_)
  refine ExL.free (fr_loadN rfl rfl rfl rfl rfl (SegO.whole (i := 0) rfl)) rfl rfl rfl ?_
  refine ExL.op rfl (op_ret rfl rfl rfl (c_iValidDevice d (by assumption) _ _) (Reads.get (Reads.old hd)) rfl rfl (fun x2 hx2 => ?_))
  refine ExL.pures 2 rfl ?_
  refine ExL.nil ?_
  refine Ex.cond rfl (fun hb3 => ?_) (fun hb3 => ?_)
  · replace hb3 := nb_t hb3
    refine Ex.regSeq (ExL.pures 2 rfl ?_)
    refine ExL.nil ?_
    refine Ex.nilRow 26 2 ?_
    refine Ex.ret ?_
    refine RetQ.mk (none, 0) rfl (.tmp rfl (.tmp rfl .nil)) (t2 (by first | (rw [bt_bad (by assumption)]; first | done | rfl) | (rw [bt_range (by assumption) (by omega)]; first | done | rfl) | (rw [bt_long (by assumption) (by omega) (by omega)]; first | done | rfl) | (rw [bt_ok (by assumption) (by omega) (by omega)]; first | done | rfl)) (by first | (rw [bt_bad (by assumption)]; first | done | rfl) | (rw [bt_range (by assumption) (by omega)]; first | done | rfl) | (rw [bt_long (by assumption) (by omega) (by omega)]; first | done | rfl) | (rw [bt_ok (by assumption) (by omega) (by omega)]; first | done | rfl))) [0] (by first | (rw [bt_bad (by assumption)]; first | done | rfl) | (rw [bt_range (by assumption) (by omega)]; first | done | rfl) | (rw [bt_long (by assumption) (by omega) (by omega)]; first | done | rfl) | (rw [bt_ok (by assumption) (by omega) (by omega)]; first | done | rfl)) rfl (trivial)
  · replace hb3 := nb_f hb3
    refine Ex.regSeq (ExL.pures 2 rfl ?_)
    refine ExL.free (fr_load rfl rfl rfl rfl (CellO.blk (i := 0) rfl rfl)) rfl rfl rfl ?_
    refine ExL.op rfl (op_ret rfl rfl rfl (c_size _ (by assumption) _ _ (by first | assumption | omega | (unfold maxLen; omega))) (Reads.get (Reads.old hd)) rfl rfl (fun x4 hx4 => ?_))
    refine ExL.free (by first | exact fr_sub64 rfl rfl rfl (by omega) | exact fr_sub rfl rfl rfl) rfl rfl rfl ?_
    refine ExL.op rfl (op_ret rfl rfl rfl (c_within _ _ _) (fun _ _ => trivial) rfl rfl (fun x5 hx5 => ?_))
    refine ExL.pures 2 rfl ?_
    refine ExL.bool (d := 21) rfl (fun hb6 => ?_) (fun hb6 => ?_)
    · replace hb6 := nd_t hb6
      refine ExL.pures 5 rfl ?_
      refine ExL.nil ?_
      refine Ex.cond_t rfl ?_
      refine Ex.regSeq (ExL.pures 2 rfl ?_)
      refine ExL.nil ?_
      refine Ex.nilRow 26 2 ?_
      refine Ex.ret ?_
      refine RetQ.mk (none, 0) rfl (.tmp rfl (.tmp rfl .nil)) (t2 (by first | (rw [bt_bad (by assumption)]; first | done | rfl) | (rw [bt_range (by assumption) (by omega)]; first | done | rfl) | (rw [bt_long (by assumption) (by omega) (by omega)]; first | done | rfl) | (rw [bt_ok (by assumption) (by omega) (by omega)]; first | done | rfl)) (by first | (rw [bt_bad (by assumption)]; first | done | rfl) | (rw [bt_range (by assumption) (by omega)]; first | done | rfl) | (rw [bt_long (by assumption) (by omega) (by omega)]; first | done | rfl) | (rw [bt_ok (by assumption) (by omega) (by omega)]; first | done | rfl))) [0] (by first | (rw [bt_bad (by assumption)]; first | done | rfl) | (rw [bt_range (by assumption) (by omega)]; first | done | rfl) | (rw [bt_long (by assumption) (by omega) (by omega)]; first | done | rfl) | (rw [bt_ok (by assumption) (by omega) (by omega)]; first | done | rfl)) rfl (trivial)
    · replace hb6 := nd_f hb6
      refine ExL.pures 1 rfl ?_
      refine ExL.op rfl (op_ret rfl rfl rfl (c_within _ _ _) (fun _ _ => trivial) rfl rfl (fun x7 hx7 => ?_))
      refine ExL.pures 3 rfl ?_
      refine ExL.nil ?_
      refine Ex.cond rfl (fun hb8 => ?_) (fun hb8 => ?_)
      · replace hb8 := nd_t hb8
        refine Ex.regSeq (ExL.pures 2 rfl ?_)
        refine ExL.nil ?_
        refine Ex.nilRow 26 2 ?_
        refine Ex.ret ?_
        refine RetQ.mk (none, 0) rfl (.tmp rfl (.tmp rfl .nil)) (t2 (by first | (rw [bt_bad (by assumption)]; first | done | rfl) | (rw [bt_range (by assumption) (by omega)]; first | done | rfl) | (rw [bt_long (by assumption) (by omega) (by omega)]; first | done | rfl) | (rw [bt_ok (by assumption) (by omega) (by omega)]; first | done | rfl)) (by first | (rw [bt_bad (by assumption)]; first | done | rfl) | (rw [bt_range (by assumption) (by omega)]; first | done | rfl) | (rw [bt_long (by assumption) (by omega) (by omega)]; first | done | rfl) | (rw [bt_ok (by assumption) (by omega) (by omega)]; first | done | rfl))) [0] (by first | (rw [bt_bad (by assumption)]; first | done | rfl) | (rw [bt_range (by assumption) (by omega)]; first | done | rfl) | (rw [bt_long (by assumption) (by omega) (by omega)]; first | done | rfl) | (rw [bt_ok (by assumption) (by omega) (by omega)]; first | done | rfl)) rfl (trivial)
      · replace hb8 := nd_f hb8
        refine Ex.regSeq (ExL.pures 1 rfl ?_)
        refine ExL.free (by first | exact fr_mul64 rfl rfl rfl (by omega) | exact fr_mul rfl rfl rfl) rfl rfl rfl ?_
        refine ExL.free (by first | exact fr_add64 rfl rfl rfl (by omega) | exact fr_add rfl rfl rfl) rfl rfl rfl ?_
        refine ExL.gtr rfl rfl rfl rfl rfl rfl (fun h9 => ?_) (fun h9 => ?_)
        · refine ExL.pures 1 rfl ?_
          refine ExL.nil ?_
          refine Ex.cond_t rfl ?_
          refine Ex.regSeq (ExL.pures 2 rfl ?_)
          refine ExL.nil ?_
          refine Ex.nilRow 26 2 ?_
          refine Ex.ret ?_
          refine RetQ.mk (none, 0) rfl (.tmp rfl (.tmp rfl .nil)) (t2 (by first | (rw [bt_bad (by assumption)]; first | done | rfl) | (rw [bt_range (by assumption) (by omega)]; first | done | rfl) | (rw [bt_long (by assumption) (by omega) (by omega)]; first | done | rfl) | (rw [bt_ok (by assumption) (by omega) (by omega)]; first | done | rfl)) (by first | (rw [bt_bad (by assumption)]; first | done | rfl) | (rw [bt_range (by assumption) (by omega)]; first | done | rfl) | (rw [bt_long (by assumption) (by omega) (by omega)]; first | done | rfl) | (rw [bt_ok (by assumption) (by omega) (by omega)]; first | done | rfl))) [0] (by first | (rw [bt_bad (by assumption)]; first | done | rfl) | (rw [bt_range (by assumption) (by omega)]; first | done | rfl) | (rw [bt_long (by assumption) (by omega) (by omega)]; first | done | rfl) | (rw [bt_ok (by assumption) (by omega) (by omega)]; first | done | rfl)) rfl (trivial)
        · refine ExL.pures 1 rfl ?_
          refine ExL.nil ?_
          refine Ex.cond_f rfl ?_
          refine Ex.skip ?_
          refine Ex.regSeq (ExL.pures 0 rfl ?_)
          refine ExL.free (fr_build rfl rfl rfl rfl) rfl rfl rfl ?_
          refine ExL.op rfl (op_buildSlice (sz := 2) rfl rfl rfl rfl rfl rfl rfl rfl (by decide) rfl rfl rfl (fun r10 => ?_))
          refine ExL.pures 1 rfl ?_
          refine ExL.nil ?_
          refine Ex.seq ?_
          refine Ex.regSeq (ExL.pures 2 rfl ?_)
          refine ExL.nil ?_
          refine Ex.block ?_
          obtain ⟨j, rfl⟩ : ∃ j : Nat, m = (j : Int) := ⟨m.toNat, by omega⟩
          refine Ex.loopA (fun k A c => [(8, .slice A (batchL n k).length c), (34, .int .i64 k)]) (fun k A c => [.row (.slice A (batchL n k).length c) 26 2 (batchL n k).length ((batchL n k).flatMap encA)]) (fun k => k ≤ j) (fun k => j - k) 0 ((some ⟨r10, 0, none⟩)) (1) [(1, _), (6, _), (7, _), (33, _)] [] 2 [0] ⟨rfl, rfl, trivial⟩ ⟨rfl, rfl, rfl, rfl, trivial⟩ (rfl) rfl (by omega) (fun k A c hI => ?_)
          have hI : k ≤ j := hI
          have hbl := batchL_len n k
          refine Ex.regSeq (ExL.pures 0 rfl ?_)
          refine ExL.lss rfl rfl rfl rfl rfl rfl (fun h11 => ?_) (fun h11 => ?_)
          · refine ExL.nil ?_
            refine Ex.seq ?_
            refine Ex.cond_t rfl ?_
            refine Ex.skip ?_
            refine Ex.seq ?_
            refine Ex.block ?_
            refine Ex.region (ExL.pures 2 rfl ?_)
            refine ExL.free (fr_build rfl rfl rfl rfl) rfl rfl rfl ?_
            refine ExL.pures 1 rfl ?_
            refine ExL.free (fr_build rfl rfl rfl rfl) rfl rfl rfl ?_
            refine ExL.free (fr_build rfl rfl rfl rfl) rfl rfl rfl ?_
            refine ExL.free (fr_build rfl rfl rfl rfl) rfl rfl rfl ?_
            refine ExL.op rfl (op_buildSlice (sz := 2) rfl rfl rfl rfl rfl rfl rfl rfl (by decide) rfl rfl rfl (fun r12 => ?_))
            refine ExL.op rfl (op_append (sz := 2) (bytes := 16) (i := 1) rfl rfl rfl rfl (Reads.row (i := 0) rfl) rfl (fun e => nomatch e) rfl rfl rfl rfl (by constructor <;> first | omega | (unfold maxLen; omega)) rfl rfl (fun A13 cA13 => ?_))
            refine ExL.pures 1 rfl ?_
            refine ExL.nil ?_
            refine Ex.region (ExL.pures 0 rfl ?_)
            refine ExL.free (by first | exact fr_add64 rfl rfl rfl (by omega) | exact fr_add rfl rfl rfl) rfl rfl rfl ?_
            refine ExL.pures 1 rfl ?_
            refine ExL.nil ?_
            refine HandA.of (k + 1) (A13) (cA13) 2 [1] ⟨(by rw [batchL, List.length_append]; rfl), rfl, trivial⟩ ⟨rfl, rfl, rfl, rfl, trivial⟩ (by rw [batchL, List.length_append, List.flatMap_append]; rfl) rfl (by omega) (by omega)
          · refine ExL.nil ?_
            refine Ex.seq ?_
            refine Ex.cond_f rfl ?_
            refine Ex.exit ?_
            obtain rfl : j = k := (by omega)
            refine Ex.regSeq (ExL.pures 3 rfl ?_)
            refine ExL.nil ?_
            refine Ex.ret ?_
            refine RetQ.mk (A, c) rfl (.tmp rfl (.tmp rfl .nil)) (t2 (by first | (rw [bt_bad (by assumption)]; first | done | rfl) | (rw [bt_range (by assumption) (by omega)]; first | done | rfl) | (rw [bt_long (by assumption) (by omega) (by omega)]; first | done | rfl) | (rw [bt_ok (by assumption) (by omega) (by omega)]; first | done | rfl)) (by first | (rw [bt_bad (by assumption)]; first | done | rfl) | (rw [bt_range (by assumption) (by omega)]; first | done | rfl) | (rw [bt_long (by assumption) (by omega) (by omega)]; first | done | rfl) | (rw [bt_ok (by assumption) (by omega) (by omega)]; first | done | rfl))) [0] (by first | (rw [bt_bad (by assumption)]; first | done | rfl) | (rw [bt_range (by assumption) (by omega)]; first | done | rfl) | (rw [bt_long (by assumption) (by omega) (by omega)]; first | done | rfl) | (rw [bt_ok (by assumption) (by omega) (by omega)]; first | done | rfl)) rfl (trivial)
theorem e_58 : Enters Try.prog 58 := Enters.of Try.func58 rfl
theorem c_sBatchActs (d : VDev) (hk : OkDev d) (Ad : Option Addr) (cd : Nat) (hdl : d.stack.length ≤ maxLen) (n m : Int) (hn : I64 n) (hm : I64 m) : Ret Try.prog 58 [.agg (encV Ad cd d).toArray, .int .i64 n, .int .i64 m] (fun w => Rd w Ad (d.stack.flatMap (eI .u8))) (fun x : Option Addr × Nat => .tuple #[.slice x.1 (batchV d n m).1.length x.2, .int .i64 (batchV d n m).2]) (fun x => [.row (.slice x.1 ((batchV d n m).1).length x.2) 26 2 ((batchV d n m).1).length (((batchV d n m).1).flatMap encA)]) (fun x => True) := by
  refine Ret.of e_58 Try.func58 rfl Try.ntmps58 rfl rfl (fun w hpre => ?_)
  have hd := hpre.base
  have hk2 := hk
  obtain ⟨hl, hu, ha, hpp, htt⟩ := hk2
  unfold I64 at hn hm
  have hz := size_bd hu d.stack.length
  rw [List.take_length] at hz
  have hm0 : maxLen = 9223372036854775807 := rfl
  refine Ex.regSeq (ExL.pures 0 rfl ?_)
  refine ExL.op rfl (op_box rfl rfl rfl rfl rfl (fun b1 => ?_))
  refine ExL.pures 2 rfl ?_
  refine ExL.nil ?_
  refine Ex.seq ?_
  refine Ex.regSeq (ExL.pures 0 rfl ?_)
  refine ExL.op rfl (op_ret rfl rfl rfl (c_l07Ok d (by assumption) _ _ _) (fun w hw => ⟨Reads.get (Reads.blk (i := 0) rfl) w hw, Reads.get (Reads.old hd) w hw⟩) rfl rfl (fun x2 hx2 => ?_))
  refine ExL.pures 1 rfl ?_
  refine ExL.nil ?_
  refine Ex.cond rfl (fun hb3 => ?_) (fun hb3 => ?_)
  · replace hb3 := nb_t hb3
    refine Ex.regSeq (ExL.pures 0 rfl ?_)
    refine ExL.op rfl (op_buildSlice (sz := 2) rfl rfl rfl rfl rfl rfl rfl rfl (by decide) rfl rfl rfl (fun r4 => ?_))
    refine ExL.pures 2 rfl ?_
    refine ExL.nil ?_
    refine Ex.ret ?_
    refine RetQ.mk ((some ⟨r4, 0, none⟩), 0) rfl (.tmp rfl (.tmp rfl .nil)) (t2 (by first | (rw [bt_bad (by assumption)]; first | done | rfl) | (rw [bt_range (by assumption) (by omega)]; first | done | rfl) | (rw [bt_long (by assumption) (by omega) (by omega)]; first | done | rfl) | (rw [bt_ok (by assumption) (by omega) (by omega)]; first | done | rfl)) (by first | (rw [bt_bad (by assumption)]; first | done | rfl) | (rw [bt_range (by assumption) (by omega)]; first | done | rfl) | (rw [bt_long (by assumption) (by omega) (by omega)]; first | done | rfl) | (rw [bt_ok (by assumption) (by omega) (by omega)]; first | done | rfl))) [0] (by first | (rw [bt_bad (by assumption)]; first | done | rfl) | (rw [bt_range (by assumption) (by omega)]; first | done | rfl) | (rw [bt_long (by assumption) (by omega) (by omega)]; first | done | rfl) | (rw [bt_ok (by assumption) (by omega) (by omega)]; first | done | rfl)) rfl (trivial)
  · replace hb3 := nb_f hb3
    refine Ex.skip ?_
    refine Ex.seq ?_
    refine Ex.regSeq (ExL.pures 2 rfl ?_)
    refine ExL.free (fr_load rfl rfl rfl rfl (CellO.blk (i := 0) rfl rfl)) rfl rfl rfl ?_
    refine ExL.op rfl (op_ret rfl rfl rfl (c_l01Size _ (by assumption) _ _ (by first | assumption | omega | (unfold maxLen; omega))) (Reads.get (Reads.old hd)) rfl rfl (fun x5 hx5 => ?_))
    refine ExL.free (by first | exact fr_sub64 rfl rfl rfl (by omega) | exact fr_sub rfl rfl rfl) rfl rfl rfl ?_
    refine ExL.op rfl (op_ret rfl rfl rfl (c_l00In _ _ _) (fun _ _ => trivial) rfl rfl (fun x6 hx6 => ?_))
    refine ExL.pures 2 rfl ?_
    refine ExL.bool (d := 20) rfl (fun hb7 => ?_) (fun hb7 => ?_)
    · replace hb7 := nd_t hb7
      refine ExL.pures 4 rfl ?_
      refine ExL.nil ?_
      refine Ex.cond_t rfl ?_
      refine Ex.regSeq (ExL.pures 0 rfl ?_)
      refine ExL.op rfl (op_buildSlice (sz := 2) rfl rfl rfl rfl rfl rfl rfl rfl (by decide) rfl rfl rfl (fun r8 => ?_))
      refine ExL.pures 2 rfl ?_
      refine ExL.nil ?_
      refine Ex.ret ?_
      refine RetQ.mk ((some ⟨r8, 0, none⟩), 0) rfl (.tmp rfl (.tmp rfl .nil)) (t2 (by first | (rw [bt_bad (by assumption)]; first | done | rfl) | (rw [bt_range (by assumption) (by omega)]; first | done | rfl) | (rw [bt_long (by assumption) (by omega) (by omega)]; first | done | rfl) | (rw [bt_ok (by assumption) (by omega) (by omega)]; first | done | rfl)) (by first | (rw [bt_bad (by assumption)]; first | done | rfl) | (rw [bt_range (by assumption) (by omega)]; first | done | rfl) | (rw [bt_long (by assumption) (by omega) (by omega)]; first | done | rfl) | (rw [bt_ok (by assumption) (by omega) (by omega)]; first | done | rfl))) [0] (by first | (rw [bt_bad (by assumption)]; first | done | rfl) | (rw [bt_range (by assumption) (by omega)]; first | done | rfl) | (rw [bt_long (by assumption) (by omega) (by omega)]; first | done | rfl) | (rw [bt_ok (by assumption) (by omega) (by omega)]; first | done | rfl)) rfl (trivial)
    · replace hb7 := nd_f hb7
      refine ExL.pures 1 rfl ?_
      refine ExL.op rfl (op_ret rfl rfl rfl (c_l00In _ _ _) (fun _ _ => trivial) rfl rfl (fun x9 hx9 => ?_))
      refine ExL.pures 2 rfl ?_
      refine ExL.nil ?_
      refine Ex.cond rfl (fun hb10 => ?_) (fun hb10 => ?_)
      · replace hb10 := nd_t hb10
        refine Ex.regSeq (ExL.pures 0 rfl ?_)
        refine ExL.op rfl (op_buildSlice (sz := 2) rfl rfl rfl rfl rfl rfl rfl rfl (by decide) rfl rfl rfl (fun r11 => ?_))
        refine ExL.pures 2 rfl ?_
        refine ExL.nil ?_
        refine Ex.ret ?_
        refine RetQ.mk ((some ⟨r11, 0, none⟩), 0) rfl (.tmp rfl (.tmp rfl .nil)) (t2 (by first | (rw [bt_bad (by assumption)]; first | done | rfl) | (rw [bt_range (by assumption) (by omega)]; first | done | rfl) | (rw [bt_long (by assumption) (by omega) (by omega)]; first | done | rfl) | (rw [bt_ok (by assumption) (by omega) (by omega)]; first | done | rfl)) (by first | (rw [bt_bad (by assumption)]; first | done | rfl) | (rw [bt_range (by assumption) (by omega)]; first | done | rfl) | (rw [bt_long (by assumption) (by omega) (by omega)]; first | done | rfl) | (rw [bt_ok (by assumption) (by omega) (by omega)]; first | done | rfl))) [0] (by first | (rw [bt_bad (by assumption)]; first | done | rfl) | (rw [bt_range (by assumption) (by omega)]; first | done | rfl) | (rw [bt_long (by assumption) (by omega) (by omega)]; first | done | rfl) | (rw [bt_ok (by assumption) (by omega) (by omega)]; first | done | rfl)) rfl (trivial)
      · replace hb10 := nd_f hb10
        refine Ex.skip ?_
        refine Ex.seq ?_
        refine Ex.regSeq (ExL.pures 1 rfl ?_)
        refine ExL.free (by first | exact fr_mul64 rfl rfl rfl (by omega) | exact fr_mul rfl rfl rfl) rfl rfl rfl ?_
        refine ExL.free (by first | exact fr_add64 rfl rfl rfl (by omega) | exact fr_add rfl rfl rfl) rfl rfl rfl ?_
        refine ExL.gtr rfl rfl rfl rfl rfl rfl (fun h12 => ?_) (fun h12 => ?_)
        · refine ExL.nil ?_
          refine Ex.cond_t rfl ?_
          refine Ex.regSeq (ExL.pures 0 rfl ?_)
          refine ExL.op rfl (op_buildSlice (sz := 2) rfl rfl rfl rfl rfl rfl rfl rfl (by decide) rfl rfl rfl (fun r13 => ?_))
          refine ExL.pures 2 rfl ?_
          refine ExL.nil ?_
          refine Ex.ret ?_
          refine RetQ.mk ((some ⟨r13, 0, none⟩), 0) rfl (.tmp rfl (.tmp rfl .nil)) (t2 (by first | (rw [bt_bad (by assumption)]; first | done | rfl) | (rw [bt_range (by assumption) (by omega)]; first | done | rfl) | (rw [bt_long (by assumption) (by omega) (by omega)]; first | done | rfl) | (rw [bt_ok (by assumption) (by omega) (by omega)]; first | done | rfl)) (by first | (rw [bt_bad (by assumption)]; first | done | rfl) | (rw [bt_range (by assumption) (by omega)]; first | done | rfl) | (rw [bt_long (by assumption) (by omega) (by omega)]; first | done | rfl) | (rw [bt_ok (by assumption) (by omega) (by omega)]; first | done | rfl))) [0] (by first | (rw [bt_bad (by assumption)]; first | done | rfl) | (rw [bt_range (by assumption) (by omega)]; first | done | rfl) | (rw [bt_long (by assumption) (by omega) (by omega)]; first | done | rfl) | (rw [bt_ok (by assumption) (by omega) (by omega)]; first | done | rfl)) rfl (trivial)
        · refine ExL.nil ?_
          refine Ex.cond_f rfl ?_
          refine Ex.skip ?_
          refine Ex.regSeq (ExL.pures 0 rfl ?_)
          refine ExL.free (fr_build rfl rfl rfl rfl) rfl rfl rfl ?_
          refine ExL.op rfl (op_buildSlice (sz := 2) rfl rfl rfl rfl rfl rfl rfl rfl (by decide) rfl rfl rfl (fun r14 => ?_))
          refine ExL.pures 1 rfl ?_
          refine ExL.nil ?_
          refine Ex.seq ?_
          refine Ex.regSeq (ExL.pures 1 rfl ?_)
          refine ExL.nil ?_
          refine Ex.block ?_
          obtain ⟨j, rfl⟩ : ∃ j : Nat, m = (j : Int) := ⟨m.toNat, by omega⟩
          refine Ex.loopA (fun k A c => [(8, .slice A (batchL n k).length c), (9, .int .i64 k)]) (fun k A c => [.row (.slice A (batchL n k).length c) 26 2 (batchL n k).length ((batchL n k).flatMap encA)]) (fun k => k ≤ j) (fun k => j - k) 0 ((some ⟨r14, 0, none⟩)) (1) [(1, _), (2, _), (6, _), (7, _)] [] 2 [0] ⟨rfl, rfl, trivial⟩ ⟨rfl, rfl, rfl, rfl, trivial⟩ (rfl) rfl (by omega) (fun k A c hI => ?_)
          have hI : k ≤ j := hI
          have hbl := batchL_len n k
          refine Ex.seq ?_
          refine Ex.regSeq (ExL.pures 2 rfl ?_)
          refine ExL.lss rfl rfl rfl rfl rfl rfl (fun h15 => ?_) (fun h15 => ?_)
          · refine ExL.nil ?_
            refine Ex.cond_t rfl ?_
            refine Ex.skip ?_
            refine Ex.seq ?_
            refine Ex.block ?_
            refine Ex.region (ExL.pures 2 rfl ?_)
            refine ExL.free (fr_build rfl rfl rfl rfl) rfl rfl rfl ?_
            refine ExL.pures 1 rfl ?_
            refine ExL.free (fr_build rfl rfl rfl rfl) rfl rfl rfl ?_
            refine ExL.free (fr_build rfl rfl rfl rfl) rfl rfl rfl ?_
            refine ExL.free (fr_build rfl rfl rfl rfl) rfl rfl rfl ?_
            refine ExL.op rfl (op_buildSlice (sz := 2) rfl rfl rfl rfl rfl rfl rfl rfl (by decide) rfl rfl rfl (fun r16 => ?_))
            refine ExL.op rfl (op_append (sz := 2) (bytes := 16) (i := 1) rfl rfl rfl rfl (Reads.row (i := 0) rfl) rfl (fun e => nomatch e) rfl rfl rfl rfl (by constructor <;> first | omega | (unfold maxLen; omega)) rfl rfl (fun A17 cA17 => ?_))
            refine ExL.pures 1 rfl ?_
            refine ExL.nil ?_
            refine Ex.region (ExL.pures 1 rfl ?_)
            refine ExL.free (by first | exact fr_add64 rfl rfl rfl (by omega) | exact fr_add rfl rfl rfl) rfl rfl rfl ?_
            refine ExL.pures 1 rfl ?_
            refine ExL.nil ?_
            refine HandA.of (k + 1) (A17) (cA17) 2 [1] ⟨(by rw [batchL, List.length_append]; rfl), rfl, trivial⟩ ⟨rfl, rfl, rfl, rfl, trivial⟩ (by rw [batchL, List.length_append, List.flatMap_append]; rfl) rfl (by omega) (by omega)
          · refine ExL.nil ?_
            refine Ex.cond_f rfl ?_
            refine Ex.exit ?_
            obtain rfl : j = k := (by omega)
            refine Ex.regSeq (ExL.pures 3 rfl ?_)
            refine ExL.nil ?_
            refine Ex.ret ?_
            refine RetQ.mk (A, c) rfl (.tmp rfl (.tmp rfl .nil)) (t2 (by first | (rw [bt_bad (by assumption)]; first | done | rfl) | (rw [bt_range (by assumption) (by omega)]; first | done | rfl) | (rw [bt_long (by assumption) (by omega) (by omega)]; first | done | rfl) | (rw [bt_ok (by assumption) (by omega) (by omega)]; first | done | rfl)) (by first | (rw [bt_bad (by assumption)]; first | done | rfl) | (rw [bt_range (by assumption) (by omega)]; first | done | rfl) | (rw [bt_long (by assumption) (by omega) (by omega)]; first | done | rfl) | (rw [bt_ok (by assumption) (by omega) (by omega)]; first | done | rfl))) [0] (by first | (rw [bt_bad (by assumption)]; first | done | rfl) | (rw [bt_range (by assumption) (by omega)]; first | done | rfl) | (rw [bt_long (by assumption) (by omega) (by omega)]; first | done | rfl) | (rw [bt_ok (by assumption) (by omega) (by omega)]; first | done | rfl)) rfl (trivial)
end Go.Proofs.Ytjopackngkfdhaa
