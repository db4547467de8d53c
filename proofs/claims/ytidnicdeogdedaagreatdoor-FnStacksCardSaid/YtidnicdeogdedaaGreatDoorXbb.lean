/- Several texts, one behind the other. -/
import Derived.Test.YtidnicdeogdedaaGreatDoorProg
import Derived.Shelf.Strings.Builder1
import Derived.Shelf.Strings.Builder2
import Derived.Shelf.Strings.OnBuilder
import Derived.Shelf.Strings.BuilderF
import Derived.Shelf.Strings.BuilderK
import Derived.Shelf.Utf8.RuneCount
import Derived.Shelf.Strings.Builder2Cap
import Derived.Shelf.Strconv.Itoa0
import Derived.Shelf.Strconv.Itoa1
import Derived.Shelf.LaysM
import Derived.Shelf.Strconv.Itoa2
import Derived.Shelf.Strconv.Itoa3
import Derived.Shelf.Strconv.Itoa4
import Derived.Shelf.Strconv.Clone
import Derived.Shelf.Strconv.SyntaxError
import Derived.Shelf.LaysC
import Derived.Shelf.Strconv.ToError
import Derived.Shelf.Strconv.Lower
import Derived.Shelf.Strconv.ParseUint10
import Derived.Shelf.Strconv.ParseUint10Empty
import Derived.Shelf.Strconv.ParseUint10Any
import Derived.Shelf.Strconv.RangeError
import Derived.Shelf.Strconv.ToErrorRange
import Derived.Shelf.Strconv.ParseUintEmpty
import Derived.Shelf.Strconv.ParseUint10b64
import Derived.Shelf.Strconv.ParseUint10b32
import Derived.Shelf.Strconv.ParseUint10b16
import Derived.Shelf.Strconv.ParseUint10b8
import Derived.Shelf.Strconv.ParseUint10At
import Derived.Ground.MpProg
import Derived.Shelf.Pu.ParseUintPublic10
import Derived.Shelf.Strings.Search1
import Derived.Shelf.Strings.Search2
import Derived.Shelf.Strings.Search3
import Derived.Shelf.Strings.Count
import Derived.Shelf.Strings.Shaped
import Derived.Shelf.Strings.Prefix
import Derived.Shelf.Strings.Split
import Derived.Shelf.Strings.SplitShaped
import Derived.Shelf.Unicode.Decode
import Derived.Shelf.Strings.RuneCount
import Derived.Shelf.Strings.Explode
import Derived.Shelf.Bits.Mul64
import Derived.Shelf.Strings.Repeat
import Derived.Shelf.Unicode.DecodeSlow
import Derived.Shelf.Unicode.DecodeAny
import Derived.Test.YtidnicdeogdedaaGreatDoorXaa
import Derived.Test.YtidnicdeogdedaaGreatDoorXab
import Derived.Test.YtidnicdeogdedaaGreatDoorXba
/- What these functions of the program hand back, each proved by walking its operations. -/
set_option linter.unusedVariables false
set_option linter.unusedSimpArgs false
set_option maxRecDepth 4000
namespace Go.Proofs.YtidnicdeogdedaaGreatDoor
open Go Go.Sx Go.RowKit Go.W Go.Proofs
attribute [local irreducible] Ex ExL ExD Op1 Free RetQ MutQ Reads CellO SegO LoadsAs
theorem e_63 : Enters Tryz.prog 63 := Enters.of Tryz.func63 rfl
theorem c_back1 (s : List Int) (As : Option Addr) (cs : Nat) (hls : s.length ≤ maxLen) (b base : Nat) (w0 : World) (hs : RdB base w0 As (s.flatMap (eI .u8))) : Iter Tryz.prog 63 [.pointer (some ⟨b, 0, none⟩)] base w0 (.blk b [.slice As s.length cs] 24) s.length (fun k => [.int .i64 ((s.length - 1 - k : Nat) : Int), .int .u8 (s.getD (s.length - 1 - k) 0)]) := by
  refine Iter.of e_63 Tryz.func63 rfl Tryz.ntmps63 rfl rfl (fun w1 l Mf hW hY => ?_)
  have hs := hs.keep hW
  have hm0 : maxLen = 9223372036854775807 := rfl
  refine Ex.regSeq (ExL.pures 0 rfl ?_)
  refine ExL.free (fr_load rfl rfl rfl rfl (CellO.blk (i := 0) rfl rfl)) rfl rfl rfl ?_
  refine ExL.pures 1 rfl ?_
  refine ExL.free (fr_sub64 rfl rfl rfl (by omega)) rfl rfl rfl ?_
  refine ExL.pures 1 rfl ?_
  refine ExL.nil ?_
  refine Ex.block ?_
  refine Ex.loopK (X := Nat) (fun k => [(3, .int .i64 ((s.length : Int) - 1 - k))]) (fun k => .blk b [.slice As s.length cs] 24 :: Mf k) (fun k => k ≤ s.length) (fun k => s.length - k) 0 [(0, _), (1, _)] [] 1 [0] ⟨agI (by simp), trivial⟩ ⟨rfl, rfl, trivial⟩ pick_box rfl (Nat.zero_le _) (fun k hI => ?_)
  refine Ex.seq ?_
  refine Ex.regSeq (ExL.pures 1 rfl ?_)
  refine ExL.geq rfl rfl rfl rfl rfl rfl (fun h1 => ?_) (fun h1 => ?_)
  · have hk : k < s.length := by omega
    have hj : (s.length : Int) - 1 - k = ((s.length - 1 - k : Nat) : Int) := by omega
    rw [hj]
    refine ExL.nil ?_
    refine Ex.cond_t rfl ?_
    refine Ex.skip ?_
    refine Ex.seq ?_
    refine Ex.block ?_
    refine Ex.regSeq (ExL.pures 2 rfl ?_)
    refine ExL.free (fr_load rfl rfl rfl rfl (CellO.blk (i := 0) rfl rfl)) rfl rfl rfl ?_
    refine ExL.pures 1 rfl ?_
    refine ExL.free (fr_indexAddrF (Reads.old hs) (eI_len .u8) rfl rfl rfl rfl rfl rfl (by omega)) rfl rfl rfl ?_
    refine ExL.free (fr_load rfl rfl rfl rfl (cellN (Reads.old hs) (eI_len .u8) 0 0 rfl (by omega) rfl)) rfl rfl rfl ?_
    refine ExL.yield rfl rfl rfl rfl rfl rfl (fun w hw => hY k w hk (by simpa using hw)) ?_
    refine ExL.pures 1 rfl ?_
    refine ExL.nil ?_
    refine Ex.cond_f rfl ?_
    refine Ex.skip ?_
    refine Ex.region (ExL.pures 1 rfl ?_)
    refine ExL.free (fr_sub64 rfl rfl rfl (by omega)) rfl rfl rfl ?_
    refine ExL.pures 1 rfl ?_
    refine ExL.nil ?_
    exact Hand.mk (k + 1) 1 [0] ⟨agI (by omega), trivial⟩ ⟨rfl, rfl, trivial⟩ pick_box rfl (by omega) (by omega)
  · refine ExL.nil ?_
    refine Ex.cond_f rfl ?_
    refine Ex.exit ?_
    obtain rfl : k = s.length := (by omega)
    exact ⟨rfl, by simp⟩
theorem e_41 : Enters Tryz.prog 41 := Enters.of Tryz.func41 rfl
theorem c_Back (s : List Int) (As : Option Addr) (cs : Nat) : Ret Tryz.prog 41 [.slice As s.length cs] (fun w => True) (fun x : Nat => .func (.func 63) #[] (List.toArray [.pointer (some ⟨x, 0, none⟩)])) (fun x => [.blk x [.slice As s.length cs] 24]) (fun x => True) := by
  refine Ret.of e_41 Tryz.func41 rfl Tryz.ntmps41 rfl rfl (fun w hpre => ?_)
  refine Ex.regSeq (ExL.pures 0 rfl ?_)
  refine ExL.op rfl (op_box rfl rfl rfl rfl rfl (fun b1 => ?_))
  refine ExL.pures 1 rfl ?_
  refine ExL.nil ?_
  refine Ex.regSeq (ExL.pures 0 rfl ?_)
  refine ExL.free (fr_makeFunc rfl rfl rfl) rfl rfl rfl ?_
  refine ExL.pures 1 rfl ?_
  refine ExL.nil ?_
  refine Ex.ret ?_
  refine RetQ.mk _ rfl (.tmp rfl .nil) (rfl) [0] (rfl) rfl (trivial)
theorem e_37 : Enters Tryz.prog 37 := Enters.of Tryz.func37 rfl
theorem c_value (s : List Int) (hv : validStack s = true) (As : Option Addr) (cs : Nat) (a : Dig) (ha : Nums 255 a.l) (hd : validDig s a.l = true) : Ret Tryz.prog 37 [.slice As s.length cs, .agg (encD a).toArray] (fun w => Rd w As (s.flatMap (eI .u8))) (fun x : Unit => .int .i64 (val s a.l)) (fun x => []) (fun x => True) := by
  refine Ret.of e_37 Tryz.func37 rfl Tryz.ntmps37 rfl rfl (fun w hpre => ?_)
  have hs := hpre.base
  have hS := stk hv
  have h8 := hS.len8
  have hD := digOk h8 ha hd
  have hn : s.length ≤ a.l.length := by rw [dig_len]; omega
  have hm0 : maxLen = 9223372036854775807 := rfl
  refine Ex.regSeq (ExL.pures 0 rfl ?_)
  refine ExL.op rfl (op_box rfl rfl rfl rfl rfl (fun b1 => ?_))
  refine ExL.pures 1 rfl ?_
  refine ExL.nil ?_
  refine Ex.regSeq (ExL.pures 0 rfl ?_)
  refine ExL.op rfl (op_alloc rfl rfl rfl rfl rfl (fun b2 => ?_))
  refine ExL.op rfl (op_storeC (i := 0) rfl rfl rfl rfl rfl rfl rfl rfl rfl rfl ?_)
  refine ExL.nil ?_
  refine ExT.seq ?_
  refine ExT.reg (ExL.pures 1 rfl ?_)
  refine ExL.op rfl (op_ret rfl rfl rfl (c_Back s _ _) (fun _ _ => trivial) rfl rfl (fun x3 hx3 => ?_))
  refine ExL.nil ?_
  refine Ex.rangeK (N := s.length) (encs := fun k => [.int .i64 ((s.length - 1 - k : Nat) : Int), .int .u8 (s.getD (s.length - 1 - k) 0)]) (fun k => [(6, .int .i64 ((s.length - 1 - k : Nat) : Int)), (7, .int .u8 (s.getD (s.length - 1 - k) 0))]) (fun k => [.blk b2 [.int .i64 (val (s.drop (s.length - k)) (a.l.drop (s.length - k)))] 2]) [(3, _), (5, _)] [_] 3 [0, 1, 2] rfl (c_back1 s As cs (by have := hS.len8; omega) _ _ _ hs) (fun _ => rfl) rfl rfl rfl (by rw [val_end (k := s.length - 0) (by omega)]; rfl) rfl ⟨rfl, rfl, trivial⟩ (fun l k W hk hW => ?_) (fun l k W hk hW => ?_) (fun D W hW => ?_)
  · have hs := hs.keep hW
    refine Ex.regSeq (ExL.pures 1 rfl ?_)
    refine ExL.nil ?_
    refine Ex.region (ExL.pures 1 rfl ?_)
    refine ExL.nil ?_
    exact ⟨rfl, ⟨rfl, rfl, rfl, rfl, trivial⟩, rfl⟩
  · have hs := hs.keep hW
    obtain ⟨j, hj, hj1, hj2⟩ : ∃ j, s.length - 1 - k = j ∧ s.length - k = j + 1 ∧ s.length - (k + 1) = j := ⟨_, rfl, by omega, by omega⟩
    have hjs : j < s.length := by omega
    have hst := val_step hS hD hn hjs
    have hb := hS.bases j hjs
    rw [hj, hj1, hj2]
    refine Ex.block ?_
    refine Ex.drawM rfl ?_
    refine ExD.take (i := 0) rfl (by kernel_rfl) (fr_load rfl rfl rfl rfl (CellO.blk (i := 1) rfl rfl)) ((List.Sublist.refl _)) rfl rfl rfl ?_
    refine ExD.take (i := 1) rfl (by kernel_rfl) (pureVal_ok rfl) ((List.Sublist.refl _)) rfl rfl rfl ?_
    refine ExD.take (i := 2) rfl (by kernel_rfl) (by first | exact fr_conv64 rfl rfl rfl rfl (by omega) | exact fr_conv rfl rfl rfl rfl) ((List.Sublist.refl _)) rfl rfl rfl ?_
    refine ExD.take (i := 3) rfl (by kernel_rfl) (by first | exact fr_mul64 rfl rfl rfl (by omega) | exact fr_mul rfl rfl rfl) ((List.Sublist.refl _)) rfl rfl rfl ?_
    refine ExD.take (i := 4) rfl (by kernel_rfl) (pureVal_ok rfl) ((List.Sublist.refl _)) rfl rfl rfl ?_
    refine ExD.take (i := 5) rfl (by kernel_rfl) (fr_indexAddr_b (sz := 1) rfl rfl rfl rfl rfl (by omega)) ((List.Sublist.refl _)) rfl rfl rfl ?_
    refine ExD.take (i := 6) rfl (by kernel_rfl) (fr_load rfl rfl rfl rfl (CellO.blk (i := 2) rfl (blkG (eI_len .u8) 0 rfl (by rw [dig_len]; omega) rfl))) ((List.Sublist.refl _)) rfl rfl rfl ?_
    refine ExD.take (i := 7) rfl (by kernel_rfl) (by first | exact fr_conv64 rfl rfl rfl rfl (by omega) | exact fr_conv rfl rfl rfl rfl) ((List.Sublist.refl _)) rfl rfl rfl ?_
    refine ExD.take (i := 8) rfl (by kernel_rfl) (by first | exact fr_add64 rfl rfl rfl (by omega) | exact fr_add rfl rfl rfl) ((List.Sublist.refl _)) rfl rfl rfl ?_
    refine ExD.last (i := 9) rfl (by kernel_rfl) (by kernel_rfl) rfl (op_storeC (i := 1) rfl rfl rfl rfl rfl rfl rfl rfl rfl rfl ?_)
    refine ExD.done (by kernel_rfl) ?_
    exact ⟨rfl, 3, [0, 1, 2], (by rw [hst.1]; rfl), rfl⟩
  · have hs := hs.keep hW
    rw [Nat.sub_self, List.drop_zero, List.drop_zero]
    refine Ex.regSeq (ExL.pures 0 rfl ?_)
    refine ExL.free (fr_load rfl rfl rfl rfl (CellO.blk (i := 1) rfl rfl)) rfl rfl rfl ?_
    refine ExL.pures 1 rfl ?_
    refine ExL.nil ?_
    refine Ex.ret ?_
    refine ⟨rfl, ?_⟩
    refine RetQ.mk () rfl (.tmp rfl .nil) (rfl) [] (rfl) rfl (trivial)
theorem e_87 : Enters Tryz.prog 87 := Enters.of Tryz.func87 rfl
theorem c_l01Value (s : List Int) (hv : validStack s = true) (As : Option Addr) (cs : Nat) (a : Dig) (ha : Nums 255 a.l) (hd : validDig s a.l = true) : Ret Tryz.prog 87 [.slice As s.length cs, .agg (encD a).toArray] (fun w => Rd w As (s.flatMap (eI .u8))) (fun x : Unit => .int .i64 (val s a.l)) (fun x => []) (fun x => True) := by
  refine Ret.of e_87 Tryz.func87 rfl Tryz.ntmps87 rfl rfl (fun w hpre => ?_)
  have hs := hpre.base
  have hS := stk hv
  have h8 := hS.len8
  have hD := digOk h8 ha hd
  have hn : s.length ≤ a.l.length := by rw [dig_len]; omega
  have hm0 : maxLen = 9223372036854775807 := rfl
  refine Ex.regSeq (ExL.pures 0 rfl ?_)
  refine ExL.op rfl (op_box rfl rfl rfl rfl rfl (fun b1 => ?_))
  refine ExL.pures 1 rfl ?_
  refine ExL.nil ?_
  refine Ex.regSeq (ExL.pures 1 rfl ?_)
  refine ExL.nil ?_
  refine Ex.seq ?_
  refine Ex.regSeq (ExL.pures 2 rfl ?_)
  refine ExL.free (by first | exact fr_sub64 rfl rfl rfl (by omega) | exact fr_sub rfl rfl rfl) rfl rfl rfl ?_
  refine ExL.pures 1 rfl ?_
  refine ExL.nil ?_
  refine Ex.block ?_
  refine Ex.loopK (X := Nat) (fun k => [(5, .int .i64 (val (s.drop k) (a.l.drop k))), (6, .int .i64 ((k : Int) - 1))]) (fun k => []) (fun k => k ≤ s.length) (fun k => k) s.length [(0, _), (3, _), (4, _)] [_] 1 [0] ⟨agI (val_end (by omega)).symm, rfl, trivial⟩ ⟨rfl, rfl, rfl, trivial⟩ (rfl) rfl (Nat.le_refl _) (fun k hI => ?_)
  have hI : k ≤ s.length := hI
  refine Ex.seq ?_
  refine Ex.regSeq (ExL.pures 1 rfl ?_)
  refine ExL.geq rfl rfl rfl rfl rfl rfl (fun h2 => ?_) (fun h2 => ?_)
  · refine ExL.nil ?_
    refine Ex.cond_t rfl ?_
    refine Ex.skip ?_
    refine Ex.seq ?_
    refine Ex.block ?_
    obtain ⟨j, rfl⟩ : ∃ j, k = j + 1 := ⟨k - 1, by omega⟩
    have hst := val_step hS hD hn (k := j) (by omega)
    have hb := hS.bases j (by omega)
    rw [show ((j + 1 : Nat) : Int) - 1 = (j : Int) by omega]
    refine Ex.drawM rfl ?_
    refine ExD.take (i := 0) rfl (by kernel_rfl) (pureVal_ok rfl) ((List.Sublist.refl _)) rfl rfl rfl ?_
    refine ExD.take (i := 1) rfl (by kernel_rfl) (pureVal_ok rfl) ((List.Sublist.refl _)) rfl rfl rfl ?_
    refine ExD.take (i := 2) rfl (by kernel_rfl) (pureVal_ok rfl) ((List.Sublist.refl _)) rfl rfl rfl ?_
    refine ExD.take (i := 3) rfl (by kernel_rfl) (fr_indexAddrF (Reads.old hs) (eI_len .u8) rfl rfl rfl rfl rfl rfl (by omega)) ((List.Sublist.refl _)) rfl rfl rfl ?_
    refine ExD.take (i := 4) rfl (by kernel_rfl) (fr_load rfl rfl rfl rfl (by first | exact cellN (Reads.old hs) (eI_len .u8) 0 0 rfl (by omega) rfl | exact cellF (Reads.old hs) (eI_len .u8) 0 0 rfl (by omega) rfl)) ((List.Sublist.refl _)) rfl rfl rfl ?_
    refine ExD.take (i := 5) rfl (by kernel_rfl) (by first | exact fr_conv64 rfl rfl rfl rfl (by omega) | exact fr_conv rfl rfl rfl rfl) ((List.Sublist.refl _)) rfl rfl rfl ?_
    refine ExD.take (i := 6) rfl (by kernel_rfl) (by first | exact fr_mul64 rfl rfl rfl (by omega) | exact fr_mul rfl rfl rfl) ((List.Sublist.refl _)) rfl rfl rfl ?_
    refine ExD.take (i := 7) rfl (by kernel_rfl) (pureVal_ok rfl) ((List.Sublist.refl _)) rfl rfl rfl ?_
    refine ExD.take (i := 8) rfl (by kernel_rfl) (fr_indexAddr_b (sz := 1) rfl rfl rfl rfl rfl (by omega)) ((List.Sublist.refl _)) rfl rfl rfl ?_
    refine ExD.take (i := 9) rfl (by kernel_rfl) (fr_load rfl rfl rfl rfl (CellO.blk (i := 0) rfl (blkG (eI_len .u8) 0 rfl (by rw [dig_len]; omega) rfl))) ((List.Sublist.refl _)) rfl rfl rfl ?_
    refine ExD.take (i := 10) rfl (by kernel_rfl) (by first | exact fr_conv64 rfl rfl rfl rfl (by omega) | exact fr_conv rfl rfl rfl rfl) ((List.Sublist.refl _)) rfl rfl rfl ?_
    refine ExD.take (i := 11) rfl (by kernel_rfl) (by first | exact fr_add64 rfl rfl rfl (by omega) | exact fr_add rfl rfl rfl) ((List.Sublist.refl _)) rfl rfl rfl ?_
    refine ExD.take (i := 12) rfl (by kernel_rfl) (pureVal_ok rfl) ((List.Sublist.refl _)) rfl rfl rfl ?_
    refine ExD.done (by kernel_rfl) ?_
    refine Ex.region (ExL.pures 1 rfl ?_)
    refine ExL.free (by first | exact fr_sub64 rfl rfl rfl (by omega) | exact fr_sub rfl rfl rfl) rfl rfl rfl ?_
    refine ExL.pures 1 rfl ?_
    refine ExL.nil ?_
    refine Hand.mk (j) 1 [0] ⟨agI hst.1.symm, agI (by omega), trivial⟩ ⟨rfl, rfl, rfl, trivial⟩ (rfl) rfl (by omega) (Nat.lt_succ_self _)
  · refine ExL.nil ?_
    refine Ex.cond_f rfl ?_
    refine Ex.exit ?_
    obtain rfl : k = 0 := (by omega)
    refine Ex.regSeq (ExL.pures 2 rfl ?_)
    refine ExL.nil ?_
    refine Ex.ret ?_
    refine RetQ.mk () rfl (.tmp rfl .nil) (rfl) [] (rfl) rfl (trivial)
theorem e_105 : Enters Tryz.prog 105 := Enters.of Tryz.func105 rfl
theorem c_floor (a b : Int) (ha : -9000000000000000000 ≤ a ∧ a ≤ 9000000000000000000) (hb : 1 ≤ b ∧ b ≤ 9000000000000000000) : Ret Tryz.prog 105 [.int .i64 a, .int .i64 b] (fun w => True) (fun x : Unit => .int .i64 (a / b)) (fun x => []) (fun x => True) := by
  refine Ret.of e_105 Tryz.func105 rfl Tryz.ntmps105 rfl rfl (fun w hpre => ?_)
  have hq1 := (tdiv_bd (a := a) (b := b) (by omega)).1
  have hq2 := (tdiv_bd (a := a) (b := b) (by omega)).2
  have hs1 := (tmod_sign (a := a) (b := b) (by omega)).1
  have hs2 := (tmod_sign (a := a) (b := b) (by omega)).2
  have hw : IntKind.i64.wrap (a.tdiv b) = a.tdiv b := wrap_i64 (by omega) (by omega)
  refine Ex.regSeq (ExL.pures 1 rfl ?_)
  refine ExL.nil ?_
  refine Ex.regSeq (ExL.pures 2 rfl ?_)
  refine ExL.free (fr_quoW _ rfl rfl rfl (by omega) hw) rfl rfl rfl ?_
  refine ExL.pures 1 rfl ?_
  refine ExL.nil ?_
  refine Ex.seq ?_
  refine Ex.regSeq (ExL.pures 2 rfl ?_)
  refine ExL.free (by first | exact fr_remP rfl rfl rfl (by omega) | exact fr_rem rfl rfl rfl (by omega)) rfl rfl rfl ?_
  refine ExL.neq rfl rfl rfl rfl rfl rfl (fun h1 => ?_) (fun h1 => ?_)
  · refine ExL.pures 2 rfl ?_
    refine ExL.lss rfl rfl rfl rfl rfl rfl (fun h2 => ?_) (fun h2 => ?_)
    · refine ExL.pures 1 rfl ?_
      refine ExL.lss rfl rfl rfl rfl rfl rfl (fun h3 => ?_) (fun h3 => ?_)
      · refine ExL.free (fr_neq_bool rfl rfl rfl rfl) rfl rfl rfl ?_
        refine ExL.pures 1 rfl ?_
        refine ExL.nil ?_
        refine Ex.cond_f rfl ?_
        refine Ex.skip ?_
        refine Ex.regSeq (ExL.pures 2 rfl ?_)
        refine ExL.nil ?_
        refine Ex.ret ?_
        refine RetQ.mk () rfl (.tmp rfl .nil) (tI (by first | exact floor_dn (by omega) (by omega) | exact floor_up (by omega) (by omega))) [] (rfl) rfl (trivial)
      · refine ExL.free (fr_neq_bool rfl rfl rfl rfl) rfl rfl rfl ?_
        refine ExL.pures 1 rfl ?_
        refine ExL.nil ?_
        refine Ex.cond_t rfl ?_
        refine Ex.region (ExL.pures 1 rfl ?_)
        refine ExL.free (by first | exact fr_sub64 rfl rfl rfl (by omega) | exact fr_sub rfl rfl rfl) rfl rfl rfl ?_
        refine ExL.pures 1 rfl ?_
        refine ExL.nil ?_
        refine Ex.regSeq (ExL.pures 2 rfl ?_)
        refine ExL.nil ?_
        refine Ex.ret ?_
        refine RetQ.mk () rfl (.tmp rfl .nil) (tI (by first | exact floor_dn (by omega) (by omega) | exact floor_up (by omega) (by omega))) [] (rfl) rfl (trivial)
    · refine ExL.pures 1 rfl ?_
      refine ExL.lss rfl rfl rfl rfl rfl rfl (fun h4 => ?_) (fun h4 => ?_)
      · refine ExL.free (fr_neq_bool rfl rfl rfl rfl) rfl rfl rfl ?_
        refine ExL.pures 1 rfl ?_
        refine ExL.nil ?_
        refine Ex.cond_t rfl ?_
        refine Ex.region (ExL.pures 1 rfl ?_)
        refine ExL.free (by first | exact fr_sub64 rfl rfl rfl (by omega) | exact fr_sub rfl rfl rfl) rfl rfl rfl ?_
        refine ExL.pures 1 rfl ?_
        refine ExL.nil ?_
        refine Ex.regSeq (ExL.pures 2 rfl ?_)
        refine ExL.nil ?_
        refine Ex.ret ?_
        refine RetQ.mk () rfl (.tmp rfl .nil) (tI (by first | exact floor_dn (by omega) (by omega) | exact floor_up (by omega) (by omega))) [] (rfl) rfl (trivial)
      · refine ExL.free (fr_neq_bool rfl rfl rfl rfl) rfl rfl rfl ?_
        refine ExL.pures 1 rfl ?_
        refine ExL.nil ?_
        refine Ex.cond_f rfl ?_
        refine Ex.skip ?_
        refine Ex.regSeq (ExL.pures 2 rfl ?_)
        refine ExL.nil ?_
        refine Ex.ret ?_
        refine RetQ.mk () rfl (.tmp rfl .nil) (tI (by first | exact floor_dn (by omega) (by omega) | exact floor_up (by omega) (by omega))) [] (rfl) rfl (trivial)
  · refine ExL.pures 7 rfl ?_
    refine ExL.nil ?_
    refine Ex.cond_f rfl ?_
    refine Ex.skip ?_
    refine Ex.regSeq (ExL.pures 2 rfl ?_)
    refine ExL.nil ?_
    refine Ex.ret ?_
    refine RetQ.mk () rfl (.tmp rfl .nil) (tI (by first | exact floor_dn (by omega) (by omega) | exact floor_up (by omega) (by omega))) [] (rfl) rfl (trivial)
theorem e_88 : Enters Tryz.prog 88 := Enters.of Tryz.func88 rfl
theorem c_l01Down (a b : Int) (ha : -9000000000000000000 ≤ a ∧ a ≤ 9000000000000000000) (hb : 1 ≤ b ∧ b ≤ 9000000000000000000) : Ret Tryz.prog 88 [.int .i64 a, .int .i64 b] (fun w => True) (fun x : Unit => .int .i64 (a / b)) (fun x => []) (fun x => True) := by
  refine Ret.of e_88 Tryz.func88 rfl Tryz.ntmps88 rfl rfl (fun w hpre => ?_)
  have hq1 := (tdiv_bd (a := a) (b := b) (by omega)).1
  have hq2 := (tdiv_bd (a := a) (b := b) (by omega)).2
  have hs1 := (tmod_sign (a := a) (b := b) (by omega)).1
  have hs2 := (tmod_sign (a := a) (b := b) (by omega)).2
  have hw : IntKind.i64.wrap (a.tdiv b) = a.tdiv b := wrap_i64 (by omega) (by omega)
  refine Ex.regSeq (ExL.pures 1 rfl ?_)
  refine ExL.nil ?_
  refine Ex.regSeq (ExL.pures 2 rfl ?_)
  refine ExL.free (fr_quoW _ rfl rfl rfl (by omega) hw) rfl rfl rfl ?_
  refine ExL.pures 1 rfl ?_
  refine ExL.nil ?_
  refine Ex.seq ?_
  refine Ex.regSeq (ExL.pures 2 rfl ?_)
  refine ExL.free (by first | exact fr_remP rfl rfl rfl (by omega) | exact fr_rem rfl rfl rfl (by omega)) rfl rfl rfl ?_
  refine ExL.lss rfl rfl rfl rfl rfl rfl (fun h1 => ?_) (fun h1 => ?_)
  · refine ExL.nil ?_
    refine Ex.cond_t rfl ?_
    refine Ex.region (ExL.pures 1 rfl ?_)
    refine ExL.free (by first | exact fr_sub64 rfl rfl rfl (by omega) | exact fr_sub rfl rfl rfl) rfl rfl rfl ?_
    refine ExL.pures 1 rfl ?_
    refine ExL.nil ?_
    refine Ex.regSeq (ExL.pures 2 rfl ?_)
    refine ExL.nil ?_
    refine Ex.ret ?_
    refine RetQ.mk () rfl (.tmp rfl .nil) (tI (by first | exact floor_dn (by omega) (by omega) | exact floor_up (by omega) (by omega))) [] (rfl) rfl (trivial)
  · refine ExL.nil ?_
    refine Ex.cond_f rfl ?_
    refine Ex.skip ?_
    refine Ex.regSeq (ExL.pures 2 rfl ?_)
    refine ExL.nil ?_
    refine Ex.ret ?_
    refine RetQ.mk () rfl (.tmp rfl .nil) (tI (by first | exact floor_dn (by omega) (by omega) | exact floor_up (by omega) (by omega))) [] (rfl) rfl (trivial)
theorem e_86 : Enters Tryz.prog 86 := Enters.of Tryz.func86 rfl
theorem c_wrapped (a b : Int) (ha : -8000000000000000000 ≤ a ∧ a ≤ 8000000000000000000) (hb : 1 ≤ b ∧ b ≤ 1000000000000000000) : Ret Tryz.prog 86 [.int .i64 a, .int .i64 b] (fun w => True) (fun x : Unit => .tuple #[.int .i64 (a % b), .int .i64 (a / b)]) (fun x => []) (fun x => True) := by
  refine Ret.of e_86 Tryz.func86 rfl Tryz.ntmps86 rfl rfl (fun w hpre => ?_)
  have h1 := Int.emod_add_mul_ediv a b
  have h2 := Int.emod_nonneg a (show b ≠ 0 by omega)
  have h3 := Int.emod_lt_of_pos a (show 0 < b by omega)
  rw [Int.mul_comm b] at h1
  refine Ex.regSeq (ExL.pures 2 rfl ?_)
  refine ExL.nil ?_
  refine Ex.regSeq (ExL.pures 2 rfl ?_)
  refine ExL.op rfl (op_ret rfl rfl rfl (c_floor _ _ (by omega) (by omega)) (fun _ _ => trivial) rfl rfl (fun x1 hx1 => ?_))
  refine ExL.pures 1 rfl ?_
  refine ExL.nil ?_
  refine Ex.regSeq (ExL.pures 3 rfl ?_)
  refine ExL.free (by first | exact fr_mul64 rfl rfl rfl (by omega) | exact fr_mul rfl rfl rfl) rfl rfl rfl ?_
  refine ExL.free (by first | exact fr_sub64 rfl rfl rfl (by omega) | exact fr_sub rfl rfl rfl) rfl rfl rfl ?_
  refine ExL.pures 3 rfl ?_
  refine ExL.nil ?_
  refine Ex.ret ?_
  refine RetQ.mk () rfl (.tmp rfl (.tmp rfl .nil)) (t2 (vI (by omega)) rfl) [] (rfl) rfl (trivial)
theorem e_33 : Enters Tryz.prog 33 := Enters.of Tryz.func33 rfl
theorem c_digits (s : List Int) (hv : validStack s = true) (As : Option Addr) (cs : Nat) (v : Int) (hv0 : 0 ≤ v ∧ v ≤ 9000000000000000000) : Ret Tryz.prog 33 [.slice As s.length cs, .int .i64 v] (fun w => Rd w As (s.flatMap (eI .u8))) (fun x : Unit => .agg (encD (dig (digs s v))).toArray) (fun x => []) (fun x => True) := by
  refine Ret.of e_33 Tryz.func33 rfl Tryz.ntmps33 rfl rfl (fun w hpre => ?_)
  have hs := hpre.base
  have hS := stk hv
  have h8 := hS.len8
  have hm0 : maxLen = 9223372036854775807 := rfl
  refine Ex.regSeq (ExL.pures 0 rfl ?_)
  refine ExL.op rfl (op_alloc rfl rfl rfl rfl rfl (fun b1 => ?_))
  refine ExL.nil ?_
  refine Ex.regSeq (ExL.pures 0 rfl ?_)
  refine ExL.free (fr_build rfl rfl rfl rfl) rfl rfl rfl ?_
  refine ExL.op rfl (op_alloc rfl rfl rfl rfl rfl (fun b2 => ?_))
  refine ExL.op rfl (op_storeC (i := 0) rfl rfl rfl rfl rfl rfl rfl rfl rfl rfl ?_)
  refine ExL.nil ?_
  refine Ex.seq ?_
  refine Ex.regSeq (ExL.pures 3 rfl ?_)
  refine ExL.nil ?_
  refine Ex.block ?_
  refine Ex.loopK (X := Nat) (fun k => [(1, .int .i64 (v / prod (s.take k))), (11, .int .i64 k)]) (fun k => [.blk b2 ((Sx.part 0 (digs s v) k).flatMap (eI .u8)) 30]) (fun k => k ≤ s.length) (fun k => s.length - k) 0 [(4, _), (5, _), (9, _), (10, _)] [_] 2 [0, 1] ⟨agI (by simp [prod]), rfl, trivial⟩ ⟨rfl, rfl, rfl, rfl, trivial⟩ (pkB (by rw [part_zero, digs_len]; rfl)) rfl (Nat.zero_le _) (fun k hI => ?_)
  have hI : k ≤ s.length := hI
  refine Ex.regSeq (ExL.pures 0 rfl ?_)
  refine ExL.lss rfl rfl rfl rfl rfl rfl (fun h3 => ?_) (fun h3 => ?_)
  · refine ExL.nil ?_
    refine Ex.seq ?_
    refine Ex.cond_t rfl ?_
    refine Ex.skip ?_
    refine Ex.seq ?_
    refine Ex.block ?_
    have hk : k < s.length := by omega
    have hb := hS.bases k hk
    have hx : 0 ≤ v / prod (s.take k) % s.getD k 0 ∧ v / prod (s.take k) % s.getD k 0 < s.getD k 0 := dAt_bd hS.bases hk
    have hp := prod_pos (hS.bases.take k)
    have hd0 := Int.ediv_nonneg hv0.1 (show 0 ≤ prod (s.take k) by omega)
    have hd1 := Int.ediv_le_self (prod (s.take k)) hv0.1
    refine Ex.regSeq (ExL.pures 1 rfl ?_)
    refine ExL.free (fr_indexAddrF (Reads.old hs) (eI_len .u8) rfl rfl rfl rfl rfl rfl (by omega)) rfl rfl rfl ?_
    refine ExL.free (fr_load rfl rfl rfl rfl (by first | exact cellN (Reads.old hs) (eI_len .u8) 0 0 rfl (by omega) rfl | exact cellF (Reads.old hs) (eI_len .u8) 0 0 rfl (by omega) rfl)) rfl rfl rfl ?_
    refine ExL.pures 2 rfl ?_
    refine ExL.nil ?_
    refine Ex.regSeq (ExL.pures 3 rfl ?_)
    refine ExL.free (by first | exact fr_conv64 rfl rfl rfl rfl (by omega) | exact fr_conv rfl rfl rfl rfl) rfl rfl rfl ?_
    refine ExL.free (by first | exact fr_remP rfl rfl rfl (by omega) | exact fr_rem rfl rfl rfl (by omega)) rfl rfl rfl ?_
    refine ExL.free (by first | exact fr_conv_u8 rfl rfl rfl rfl (by omega) | exact fr_conv rfl rfl rfl rfl) rfl rfl rfl ?_
    refine ExL.free (fr_indexAddr_b (sz := 1) rfl rfl rfl rfl rfl (by omega)) rfl rfl rfl ?_
    refine ExL.op rfl (op_store (i := 0) rfl rfl rfl rfl rfl rfl rfl rfl (room (eI_len .u8) (k := k) (part_lt (by rw [digs_len]; omega) (by rw [digs_len]; omega)) (by simp) rfl) rfl ?_)
    refine ExL.nil ?_
    refine Ex.region (ExL.pures 2 rfl ?_)
    refine ExL.free (by first | exact fr_conv64 rfl rfl rfl rfl (by omega) | exact fr_conv rfl rfl rfl rfl) rfl rfl rfl ?_
    refine ExL.free (by first | exact fr_quo64 rfl rfl rfl (by omega) | exact fr_quo rfl rfl rfl (by omega)) rfl rfl rfl ?_
    refine ExL.pures 1 rfl ?_
    refine ExL.nil ?_
    refine Ex.region (ExL.pures 0 rfl ?_)
    refine ExL.free (by first | exact fr_add64 rfl rfl rfl (by omega) | exact fr_add rfl rfl rfl) rfl rfl rfl ?_
    refine ExL.pures 1 rfl ?_
    refine ExL.nil ?_
    refine Hand.mk (k + 1) 2 [0, 1] ⟨agI (div_prod hS.bases hk), rfl, trivial⟩ ⟨rfl, rfl, rfl, rfl, trivial⟩ (pkB (part_put (eI_len .u8) 0 0 (digs s v) k (by rw [digs_len]; omega) (by simp) (congrArg (eI .u8) (digs_lo h8 hk).symm))) rfl (by omega) (by omega)
  · refine ExL.nil ?_
    refine Ex.seq ?_
    refine Ex.cond_f rfl ?_
    refine Ex.exit ?_
    obtain rfl : k = s.length := (by omega)
    rw [digs_part h8, ← encD_dig (digs_len s v)]
    refine Ex.regSeq (ExL.pures 0 rfl ?_)
    refine ExL.free (fr_loadN rfl rfl rfl rfl rfl (SegO.whole (i := 0) rfl)) rfl rfl rfl ?_
    refine ExL.op rfl (op_storeC (i := 1) rfl rfl rfl rfl rfl rfl rfl rfl rfl rfl ?_)
    refine ExL.nil ?_
    refine Ex.ret ?_
    refine RetQ.mk () rfl (.cell rfl (.many rfl rfl rfl (SegO.whole (i := 1) rfl)) .nil) (rfl) [] (rfl) rfl (trivial)
theorem e_36 : Enters Tryz.prog 36 := Enters.of Tryz.func36 rfl
theorem c_l01Of (s : List Int) (hv : validStack s = true) (As : Option Addr) (cs : Nat) (v : Int) (hv0 : 0 ≤ v ∧ v ≤ 9000000000000000000) : Ret Tryz.prog 36 [.slice As s.length cs, .int .i64 v] (fun w => Rd w As (s.flatMap (eI .u8))) (fun x : Unit => .agg (encD (dig (digs s v))).toArray) (fun x => []) (fun x => True) := by
  refine Ret.of e_36 Tryz.func36 rfl Tryz.ntmps36 rfl rfl (fun w hpre => ?_)
  have hs := hpre.base
  have hS := stk hv
  have h8 := hS.len8
  have hm0 : maxLen = 9223372036854775807 := rfl
  refine Ex.regSeq (ExL.pures 0 rfl ?_)
  refine ExL.op rfl (op_alloc rfl rfl rfl rfl rfl (fun b1 => ?_))
  refine ExL.nil ?_
  refine Ex.regSeq (ExL.pures 0 rfl ?_)
  refine ExL.free (fr_build rfl rfl rfl rfl) rfl rfl rfl ?_
  refine ExL.op rfl (op_alloc rfl rfl rfl rfl rfl (fun b2 => ?_))
  refine ExL.op rfl (op_storeC (i := 0) rfl rfl rfl rfl rfl rfl rfl rfl rfl rfl ?_)
  refine ExL.nil ?_
  refine Ex.seq ?_
  refine Ex.regSeq (ExL.pures 1 rfl ?_)
  refine ExL.nil ?_
  refine Ex.block ?_
  refine Ex.loopK (X := Nat) (fun k => [(1, .int .i64 (v / prod (s.take k))), (6, .int .i64 k)]) (fun k => [.blk b2 ((Sx.part 0 (digs s v) k).flatMap (eI .u8)) 30]) (fun k => k ≤ s.length) (fun k => s.length - k) 0 [(0, _), (4, _), (5, _)] [_] 2 [0, 1] ⟨agI (by simp [prod]), rfl, trivial⟩ ⟨rfl, rfl, rfl, trivial⟩ (pkB (by rw [part_zero, digs_len]; rfl)) rfl (Nat.zero_le _) (fun k hI => ?_)
  have hI : k ≤ s.length := hI
  refine Ex.seq ?_
  refine Ex.regSeq (ExL.pures 3 rfl ?_)
  refine ExL.lss rfl rfl rfl rfl rfl rfl (fun h3 => ?_) (fun h3 => ?_)
  · refine ExL.nil ?_
    refine Ex.cond_t rfl ?_
    refine Ex.skip ?_
    refine Ex.seq ?_
    refine Ex.block ?_
    have hk : k < s.length := by omega
    have hb := hS.bases k hk
    have hx : 0 ≤ v / prod (s.take k) % s.getD k 0 ∧ v / prod (s.take k) % s.getD k 0 < s.getD k 0 := dAt_bd hS.bases hk
    have hp := prod_pos (hS.bases.take k)
    have hd0 := Int.ediv_nonneg hv0.1 (show 0 ≤ prod (s.take k) by omega)
    have hd1 := Int.ediv_le_self (prod (s.take k)) hv0.1
    refine Ex.regSeq (ExL.pures 4 rfl ?_)
    refine ExL.free (fr_indexAddrF (Reads.old hs) (eI_len .u8) rfl rfl rfl rfl rfl rfl (by omega)) rfl rfl rfl ?_
    refine ExL.free (fr_load rfl rfl rfl rfl (by first | exact cellN (Reads.old hs) (eI_len .u8) 0 0 rfl (by omega) rfl | exact cellF (Reads.old hs) (eI_len .u8) 0 0 rfl (by omega) rfl)) rfl rfl rfl ?_
    refine ExL.free (by first | exact fr_conv64 rfl rfl rfl rfl (by omega) | exact fr_conv rfl rfl rfl rfl) rfl rfl rfl ?_
    refine ExL.free (by first | exact fr_remP rfl rfl rfl (by omega) | exact fr_rem rfl rfl rfl (by omega)) rfl rfl rfl ?_
    refine ExL.free (by first | exact fr_conv_u8 rfl rfl rfl rfl (by omega) | exact fr_conv rfl rfl rfl rfl) rfl rfl rfl ?_
    refine ExL.free (fr_indexAddr_b (sz := 1) rfl rfl rfl rfl rfl (by omega)) rfl rfl rfl ?_
    refine ExL.op rfl (op_store (i := 0) rfl rfl rfl rfl rfl rfl rfl rfl (room (eI_len .u8) (k := k) (part_lt (by rw [digs_len]; omega) (by rw [digs_len]; omega)) (by simp) rfl) rfl ?_)
    refine ExL.nil ?_
    refine Ex.region (ExL.pures 3 rfl ?_)
    refine ExL.free (fr_indexAddrF (Reads.old hs) (eI_len .u8) rfl rfl rfl rfl rfl rfl (by omega)) rfl rfl rfl ?_
    refine ExL.free (fr_load rfl rfl rfl rfl (by first | exact cellN (Reads.old hs) (eI_len .u8) 0 0 rfl (by omega) rfl | exact cellF (Reads.old hs) (eI_len .u8) 0 0 rfl (by omega) rfl)) rfl rfl rfl ?_
    refine ExL.free (by first | exact fr_conv64 rfl rfl rfl rfl (by omega) | exact fr_conv rfl rfl rfl rfl) rfl rfl rfl ?_
    refine ExL.free (by first | exact fr_quo64 rfl rfl rfl (by omega) | exact fr_quo rfl rfl rfl (by omega)) rfl rfl rfl ?_
    refine ExL.pures 1 rfl ?_
    refine ExL.nil ?_
    refine Ex.region (ExL.pures 1 rfl ?_)
    refine ExL.free (by first | exact fr_add64 rfl rfl rfl (by omega) | exact fr_add rfl rfl rfl) rfl rfl rfl ?_
    refine ExL.pures 1 rfl ?_
    refine ExL.nil ?_
    refine Hand.mk (k + 1) 2 [0, 1] ⟨agI (div_prod hS.bases hk), rfl, trivial⟩ ⟨rfl, rfl, rfl, trivial⟩ (pkB (part_put (eI_len .u8) 0 0 (digs s v) k (by rw [digs_len]; omega) (by simp) (congrArg (eI .u8) (digs_lo h8 hk).symm))) rfl (by omega) (by omega)
  · refine ExL.nil ?_
    refine Ex.cond_f rfl ?_
    refine Ex.exit ?_
    obtain rfl : k = s.length := (by omega)
    rw [digs_part h8, ← encD_dig (digs_len s v)]
    refine Ex.regSeq (ExL.pures 0 rfl ?_)
    refine ExL.free (fr_loadN rfl rfl rfl rfl rfl (SegO.whole (i := 0) rfl)) rfl rfl rfl ?_
    refine ExL.op rfl (op_storeC (i := 1) rfl rfl rfl rfl rfl rfl rfl rfl rfl rfl ?_)
    refine ExL.nil ?_
    refine Ex.ret ?_
    refine RetQ.mk () rfl (.cell rfl (.many rfl rfl rfl (SegO.whole (i := 1) rfl)) .nil) (rfl) [] (rfl) rfl (trivial)
theorem e_70 : Enters Tryz.prog 70 := Enters.of Tryz.func70 rfl
theorem c_added (s : List Int) (hv : validStack s = true) (As : Option Addr) (cs : Nat) (a : Dig) (ha : Nums 255 a.l) (hd : validDig s a.l = true) (hu : Nums 255 s) (n : Int) (hn : -2000000000000 ≤ n ∧ n ≤ 2000000000000) : Ret Tryz.prog 70 [.slice As s.length cs, .agg (encD a).toArray, .int .i64 n] (fun w => Rd w As (s.flatMap (eI .u8))) (fun x : Unit => .tuple #[.agg (encD (addD s a n)).toArray, .int .i64 ((val s a.l + n) / size s)]) (fun x => []) (fun x => True) := by
  refine Ret.of e_70 Tryz.func70 rfl Tryz.ntmps70 rfl rfl (fun w hpre => ?_)
  have hs := hpre.base
  have hS := stk hv
  have h8 := hS.len8
  have hD := digOk h8 ha hd
  have hn : s.length ≤ a.l.length := by rw [dig_len]; omega
  have hm0 : maxLen = 9223372036854775807 := rfl
  have hz := hS.size_
  have hle := hS.le
  have hps := hS.pos
  have hvl := val_lt hS hD (by rw [dig_len]; omega)
  have hm1 := Int.emod_nonneg (val s a.l + n) (show size s ≠ 0 by omega)
  have hm2 := Int.emod_lt_of_pos (val s a.l + n) (show 0 < size s by omega)
  have hm3 := Int.emod_add_mul_ediv (val s a.l + n) (size s)
  rw [Int.mul_comm (size s)] at hm3
  refine Ex.regSeq (ExL.pures 0 rfl ?_)
  refine ExL.op rfl (op_box rfl rfl rfl rfl rfl (fun b1 => ?_))
  refine ExL.op rfl (op_alloc rfl rfl rfl rfl rfl (fun b2 => ?_))
  refine ExL.pures 1 rfl ?_
  refine ExL.nil ?_
  refine Ex.regSeq (ExL.pures 1 rfl ?_)
  refine ExL.free (fr_loadN rfl rfl rfl rfl rfl (SegO.whole (i := 1) rfl)) rfl rfl rfl ?_
  refine ExL.op rfl (op_ret rfl rfl rfl (c_value s (by first | assumption | simp_all) _ _ a (by assumption) (by first | assumption | simp_all)) (Reads.get (Reads.old hs)) rfl rfl (fun x3 hx3 => ?_))
  refine ExL.pures 1 rfl ?_
  refine ExL.free (by first | exact fr_add64 rfl rfl rfl (by omega) | exact fr_add rfl rfl rfl) rfl rfl rfl ?_
  refine ExL.pures 1 rfl ?_
  refine ExL.op rfl (op_ret rfl rfl rfl (c_size _ (by assumption) _ _ (by first | assumption | omega | (unfold maxLen; omega))) (Reads.get (Reads.old hs)) rfl rfl (fun x4 hx4 => ?_))
  refine ExL.op rfl (op_ret rfl rfl rfl (c_wrapped _ _ (by omega) (by omega)) (fun _ _ => trivial) rfl rfl (fun x5 hx5 => ?_))
  refine ExL.pures 5 rfl ?_
  refine ExL.nil ?_
  refine Ex.regSeq (ExL.pures 2 rfl ?_)
  refine ExL.op rfl (op_ret rfl rfl rfl (c_digits s (by first | assumption | simp_all) _ _ _ (by omega)) (Reads.get (Reads.old hs)) rfl rfl (fun x6 hx6 => ?_))
  refine ExL.pures 1 rfl ?_
  refine ExL.op rfl (op_storeC (i := 0) rfl rfl rfl rfl rfl rfl rfl rfl rfl rfl ?_)
  refine ExL.pures 1 rfl ?_
  refine ExL.nil ?_
  refine Ex.ret ?_
  refine RetQ.mk () rfl (.cell rfl (.many rfl rfl rfl (SegO.whole (i := 0) rfl)) (.tmp rfl .nil)) (rfl) [] (rfl) rfl (trivial)
theorem e_71 : Enters Tryz.prog 71 := Enters.of Tryz.func71 rfl
theorem c_l01Add (s : List Int) (hv : validStack s = true) (As : Option Addr) (cs : Nat) (a : Dig) (ha : Nums 255 a.l) (hd : validDig s a.l = true) (hu : Nums 255 s) (n : Int) (hn : -2000000000000 ≤ n ∧ n ≤ 2000000000000) : Ret Tryz.prog 71 [.slice As s.length cs, .agg (encD a).toArray, .int .i64 n] (fun w => Rd w As (s.flatMap (eI .u8))) (fun x : Unit => .tuple #[.agg (encD (addD s a n)).toArray, .int .i64 ((val s a.l + n) / size s)]) (fun x => []) (fun x => True) := by
  refine Ret.of e_71 Tryz.func71 rfl Tryz.ntmps71 rfl rfl (fun w hpre => ?_)
  have hs := hpre.base
  have hS := stk hv
  have h8 := hS.len8
  have hD := digOk h8 ha hd
  have hn : s.length ≤ a.l.length := by rw [dig_len]; omega
  have hm0 : maxLen = 9223372036854775807 := rfl
  have hz := hS.size_
  have hle := hS.le
  have hps := hS.pos
  have hvl := val_lt hS hD (by rw [dig_len]; omega)
  have hm1 := Int.emod_nonneg (val s a.l + n) (show size s ≠ 0 by omega)
  have hm2 := Int.emod_lt_of_pos (val s a.l + n) (show 0 < size s by omega)
  have hm3 := Int.emod_add_mul_ediv (val s a.l + n) (size s)
  rw [Int.mul_comm (size s)] at hm3
  refine Ex.regSeq (ExL.pures 0 rfl ?_)
  refine ExL.op rfl (op_box rfl rfl rfl rfl rfl (fun b1 => ?_))
  refine ExL.op rfl (op_alloc rfl rfl rfl rfl rfl (fun b2 => ?_))
  refine ExL.pures 1 rfl ?_
  refine ExL.nil ?_
  refine Ex.regSeq (ExL.pures 1 rfl ?_)
  refine ExL.op rfl (op_ret rfl rfl rfl (c_l01Size _ (by assumption) _ _ (by first | assumption | omega | (unfold maxLen; omega))) (Reads.get (Reads.old hs)) rfl rfl (fun x3 hx3 => ?_))
  refine ExL.pures 1 rfl ?_
  refine ExL.nil ?_
  refine Ex.regSeq (ExL.pures 1 rfl ?_)
  refine ExL.free (fr_loadN rfl rfl rfl rfl rfl (SegO.whole (i := 1) rfl)) rfl rfl rfl ?_
  refine ExL.op rfl (op_ret rfl rfl rfl (c_l01Value s (by first | assumption | simp_all) _ _ a (by assumption) (by first | assumption | simp_all)) (Reads.get (Reads.old hs)) rfl rfl (fun x4 hx4 => ?_))
  refine ExL.pures 1 rfl ?_
  refine ExL.free (by first | exact fr_add64 rfl rfl rfl (by omega) | exact fr_add rfl rfl rfl) rfl rfl rfl ?_
  refine ExL.pures 1 rfl ?_
  refine ExL.nil ?_
  refine Ex.regSeq (ExL.pures 2 rfl ?_)
  refine ExL.op rfl (op_ret rfl rfl rfl (c_l01Down _ _ (by omega) (by omega)) (fun _ _ => trivial) rfl rfl (fun x5 hx5 => ?_))
  refine ExL.pures 1 rfl ?_
  refine ExL.nil ?_
  refine Ex.regSeq (ExL.pures 4 rfl ?_)
  refine ExL.free (by first | exact fr_mul64 rfl rfl rfl (by omega) | exact fr_mul rfl rfl rfl) rfl rfl rfl ?_
  refine ExL.free (by first | exact fr_sub64 rfl rfl rfl (by omega) | exact fr_sub rfl rfl rfl) rfl rfl rfl ?_
  refine ExL.op rfl (op_ret rfl rfl rfl (c_l01Of s (by first | assumption | simp_all) _ _ _ (by omega)) (Reads.get (Reads.old hs)) rfl rfl (fun x6 hx6 => ?_))
  refine ExL.pures 1 rfl ?_
  refine ExL.op rfl (op_storeC (i := 0) rfl rfl rfl rfl rfl rfl rfl rfl rfl rfl ?_)
  refine ExL.pures 1 rfl ?_
  refine ExL.nil ?_
  refine Ex.ret ?_
  refine RetQ.mk () rfl (.cell rfl (.many rfl rfl rfl (SegO.whole (i := 0) rfl)) (.tmp rfl .nil)) (t2 (by rw [show val s a.l + n - (val s a.l + n) / size s * size s = (val s a.l + n) % size s by omega]; rfl) rfl) [] (rfl) rfl (trivial)
theorem e_32 : Enters Tryz.prog 32 := Enters.of Tryz.func32 rfl
theorem c_hasValue (s : List Int) (hu : Nums 255 s) (As : Option Addr) (cs : Nat) (hl : s.length ≤ maxLen) (v : Int) : Ret Tryz.prog 32 [.slice As s.length cs, .int .i64 v] (fun w => Rd w As (s.flatMap (eI .u8))) (fun x : Unit => .bool (decide (0 ≤ v ∧ v ≤ size s - 1))) (fun x => []) (fun x => True) := by
  refine Ret.of e_32 Tryz.func32 rfl Tryz.ntmps32 rfl rfl (fun w hpre => ?_)
  have hs := hpre.base
  have hz := size_bd hu s.length
  rw [List.take_length] at hz
  refine Ex.regSeq (ExL.pures 1 rfl ?_)
  refine ExL.nil ?_
  refine Ex.regSeq (ExL.pures 2 rfl ?_)
  refine ExL.op rfl (op_ret rfl rfl rfl (c_size _ (by assumption) _ _ (by first | assumption | omega | (unfold maxLen; omega))) (Reads.get (Reads.old hs)) rfl rfl (fun x1 hx1 => ?_))
  refine ExL.free (by first | exact fr_sub64 rfl rfl rfl (by omega) | exact fr_sub rfl rfl rfl) rfl rfl rfl ?_
  refine ExL.op rfl (op_ret rfl rfl rfl (c_within _ _ _) (fun _ _ => trivial) rfl rfl (fun x2 hx2 => ?_))
  refine ExL.pures 1 rfl ?_
  refine ExL.nil ?_
  refine Ex.ret ?_
  refine RetQ.mk () rfl (.tmp rfl .nil) (rfl) [] (rfl) rfl (trivial)
end Go.Proofs.YtidnicdeogdedaaGreatDoor

/- What these functions of the program hand back, each proved by walking its operations. -/
set_option linter.unusedVariables false
set_option linter.unusedSimpArgs false
set_option maxRecDepth 4000
namespace Go.Proofs.YtidnicdeogdedaaGreatDoor
open Go Go.Sx Go.RowKit Go.W Go.Proofs
attribute [local irreducible] Ex ExL ExD Op1 Free RetQ MutQ Reads CellO SegO LoadsAs
end Go.Proofs.YtidnicdeogdedaaGreatDoor

/- What these functions of the program hand back, each proved by walking its operations. -/
set_option linter.unusedVariables false
set_option linter.unusedSimpArgs false
set_option maxRecDepth 4000
namespace Go.Proofs.YtidnicdeogdedaaGreatDoor
open Go Go.Sx Go.RowKit Go.W Go.Proofs
attribute [local irreducible] Ex ExL ExD Op1 Free RetQ MutQ Reads CellO SegO LoadsAs
end Go.Proofs.YtidnicdeogdedaaGreatDoor

/- What these functions of the program hand back, each proved by walking its operations. -/
set_option linter.unusedVariables false
set_option linter.unusedSimpArgs false
set_option maxRecDepth 4000
namespace Go.Proofs.YtidnicdeogdedaaGreatDoor
open Go Go.Sx Go.RowKit Go.W Go.Proofs
attribute [local irreducible] Ex ExL ExD Op1 Free RetQ MutQ Reads CellO SegO LoadsAs
theorem e_58 : Enters Tryz.prog 58 := Enters.of Tryz.func58 rfl
theorem c_next (code : List Int) (Ac : Option Addr) (cc : Nat) (hcl : code.length ≤ maxLen) (hcu : Nums 255 code) (b : Nat) (at_ sd : Int) (hat : 0 ≤ at_ ∧ at_ ≤ 2000000000) : Mut Tryz.prog 58 [.pointer (some ⟨b, 0, none⟩)] [.blk b [.slice Ac code.length cc, .int .i64 at_, .int .u64 sd] 81] (fun base w0 F => RdB base w0 Ac (code.flatMap (eI .u8))) (fun x : Int × Int => .int .i64 x.1) (fun x => [.blk b [.slice Ac code.length cc, .int .i64 (at_ + 1), .int .u64 x.2] 81]) (fun x => 0 ≤ x.1 ∧ x.1 ≤ 255) := by
  refine Mut.of e_58 Tryz.func58 rfl Tryz.ntmps58 rfl rfl (fun base w0 F hfr => ?_)
  have hcode := hfr
  have hx := hcu.at_ (by omega) at_.toNat
  have hm0 : maxLen = 9223372036854775807 := rfl
  refine Ex.regSeq (ExL.pures 1 rfl ?_)
  refine ExL.nil ?_
  refine Ex.regSeq (ExL.pures 1 rfl ?_)
  refine ExL.nil ?_
  refine Ex.seq ?_
  refine Ex.drawSeqM rfl ?_
  refine ExD.take (i := 0) rfl (by kernel_rfl) (pureVal_ok rfl) ((List.Sublist.refl _)) rfl rfl rfl ?_
  refine ExD.take (i := 1) rfl (by kernel_rfl) (pureVal_ok rfl) ((List.Sublist.refl _)) rfl rfl rfl ?_
  refine ExD.take (i := 2) rfl (by kernel_rfl) (pureVal_ok rfl) ((List.Sublist.refl _)) rfl rfl rfl ?_
  refine ExD.take (i := 3) rfl (by kernel_rfl) (fr_load rfl rfl rfl rfl (CellO.blk (i := 0) rfl rfl)) ((List.Sublist.refl _)) rfl rfl rfl ?_
  refine ExD.take (i := 4) rfl (by kernel_rfl) (pureVal_ok rfl) ((List.Sublist.refl _)) rfl rfl rfl ?_
  refine ExD.take (i := 5) rfl (by kernel_rfl) (pureVal_ok rfl) ((List.Sublist.refl _)) rfl rfl rfl ?_
  refine ExD.take (i := 6) rfl (by kernel_rfl) (pureVal_ok rfl) ((List.Sublist.refl _)) rfl rfl rfl ?_
  refine ExD.take (i := 7) rfl (by kernel_rfl) (fr_load rfl rfl rfl rfl (CellO.blk (i := 0) rfl rfl)) ((List.Sublist.refl _)) rfl rfl rfl ?_
  refine ExD.take (i := 8) rfl (by kernel_rfl) (pureVal_ok rfl) ((List.Sublist.refl _)) rfl rfl rfl ?_
  refine ExD.cmp_lss (i := 9) rfl (by kernel_rfl) rfl rfl rfl ((List.Sublist.refl _)) rfl rfl rfl (fun h1 => ?_) (fun h1 => ?_)
  · refine ExD.done (by kernel_rfl) ?_
    refine Ex.cond_t rfl ?_
    refine Ex.drawM rfl ?_
    refine ExD.take (i := 0) rfl (by kernel_rfl) (pureVal_ok rfl) ((List.Sublist.refl _)) rfl rfl rfl ?_
    refine ExD.take (i := 1) rfl (by kernel_rfl) (pureVal_ok rfl) ((List.Sublist.refl _)) rfl rfl rfl ?_
    refine ExD.take (i := 2) rfl (by kernel_rfl) (pureVal_ok rfl) ((List.Sublist.refl _)) rfl rfl rfl ?_
    refine ExD.take (i := 3) rfl (by kernel_rfl) (fr_load rfl rfl rfl rfl (CellO.blk (i := 0) rfl rfl)) ((List.Sublist.refl _)) rfl rfl rfl ?_
    refine ExD.take (i := 4) rfl (by kernel_rfl) (pureVal_ok rfl) ((List.Sublist.refl _)) rfl rfl rfl ?_
    refine ExD.take (i := 5) rfl (by kernel_rfl) (pureVal_ok rfl) ((List.Sublist.refl _)) rfl rfl rfl ?_
    refine ExD.take (i := 6) rfl (by kernel_rfl) (pureVal_ok rfl) ((List.Sublist.refl _)) rfl rfl rfl ?_
    refine ExD.take (i := 7) rfl (by kernel_rfl) (fr_load rfl rfl rfl rfl (CellO.blk (i := 0) rfl rfl)) ((List.Sublist.refl _)) rfl rfl rfl ?_
    refine ExD.take (i := 8) rfl (by kernel_rfl) (fr_indexAddrF (Reads.old hcode) (eI_len .u8) rfl rfl rfl rfl rfl rfl (by omega)) ((List.Sublist.refl _)) rfl rfl rfl ?_
    refine ExD.take (i := 9) rfl (by kernel_rfl) (fr_load rfl rfl rfl rfl (by first | exact cellN (Reads.old hcode) (eI_len .u8) 0 0 rfl (by omega) rfl | exact cellF (Reads.old hcode) (eI_len .u8) 0 0 rfl (by omega) rfl)) ((List.Sublist.refl _)) rfl rfl rfl ?_
    refine ExD.take (i := 10) rfl (by kernel_rfl) (by first | exact fr_conv64 rfl rfl rfl rfl (by omega) | exact fr_conv rfl rfl rfl rfl) ((List.Sublist.refl _)) rfl rfl rfl ?_
    refine ExD.take (i := 11) rfl (by kernel_rfl) (pureVal_ok rfl) ((List.Sublist.refl _)) rfl rfl rfl ?_
    refine ExD.done (by kernel_rfl) ?_
    refine Ex.regSeq (ExL.pures 3 rfl ?_)
    refine ExL.free (fr_load rfl rfl rfl rfl (CellO.blk (i := 0) rfl rfl)) rfl rfl rfl ?_
    refine ExL.free (by first | exact fr_add64 rfl rfl rfl (by omega) | exact fr_add rfl rfl rfl) rfl rfl rfl ?_
    refine ExL.pures 2 rfl ?_
    refine ExL.op rfl (op_storeC (i := 0) rfl rfl rfl rfl rfl rfl rfl rfl rfl rfl ?_)
    refine ExL.nil ?_
    refine Ex.regSeq (ExL.pures 4 rfl ?_)
    refine ExL.free (fr_load rfl rfl rfl rfl (CellO.blk (i := 0) rfl rfl)) rfl rfl rfl ?_
    refine ExL.free (fr_mul rfl rfl rfl) rfl rfl rfl ?_
    refine ExL.pures 1 rfl ?_
    refine ExL.free (by first | exact fr_conv_u64 rfl rfl rfl rfl (by omega) | exact fr_conv rfl rfl rfl rfl) rfl rfl rfl ?_
    refine ExL.free (fr_add rfl rfl rfl) rfl rfl rfl ?_
    refine ExL.free (fr_add rfl rfl rfl) rfl rfl rfl ?_
    refine ExL.pures 2 rfl ?_
    refine ExL.op rfl (op_storeC (i := 0) rfl rfl rfl rfl rfl rfl rfl rfl rfl rfl ?_)
    refine ExL.nil ?_
    refine Ex.seq ?_
    refine Ex.drawSeqM rfl ?_
    refine ExD.take (i := 0) rfl (by kernel_rfl) (pureVal_ok rfl) ((List.Sublist.refl _)) rfl rfl rfl ?_
    refine ExD.take (i := 1) rfl (by kernel_rfl) (pureVal_ok rfl) ((List.Sublist.refl _)) rfl rfl rfl ?_
    refine ExD.take (i := 2) rfl (by kernel_rfl) (pureVal_ok rfl) ((List.Sublist.refl _)) rfl rfl rfl ?_
    refine ExD.take (i := 3) rfl (by kernel_rfl) (fr_load rfl rfl rfl rfl (CellO.blk (i := 0) rfl rfl)) ((List.Sublist.refl _)) rfl rfl rfl ?_
    refine ExD.take (i := 4) rfl (by kernel_rfl) (pureVal_ok rfl) ((List.Sublist.refl _)) rfl rfl rfl ?_
    refine ExD.take (i := 5) rfl (by kernel_rfl) (pureVal_ok rfl) ((List.Sublist.refl _)) rfl rfl rfl ?_
    refine ExD.take (i := 6) rfl (by kernel_rfl) (pureVal_ok rfl) ((List.Sublist.refl _)) rfl rfl rfl ?_
    refine ExD.take (i := 7) rfl (by kernel_rfl) (fr_load rfl rfl rfl rfl (CellO.blk (i := 0) rfl rfl)) ((List.Sublist.refl _)) rfl rfl rfl ?_
    refine ExD.take (i := 8) rfl (by kernel_rfl) (pureVal_ok rfl) ((List.Sublist.refl _)) rfl rfl rfl ?_
    refine ExD.cmp_leq (i := 9) rfl (by kernel_rfl) rfl rfl rfl ((List.Sublist.refl _)) rfl rfl rfl (fun h2 => ?_) (fun h2 => ?_)
    · refine ExD.done (by kernel_rfl) ?_
      refine Ex.cond_t rfl ?_
      refine Ex.regSeq (ExL.pures 2 rfl ?_)
      refine ExL.nil ?_
      refine Ex.ret ?_
      refine MutQ.mk (_, _) rfl (.tmp rfl .nil) (rfl) 1 [0] (rfl) rfl (by refine ⟨?_, ?_⟩ <;> first | exact hx.1 | exact hx.2 | (dsimp only; omega))
    · refine ExD.done (by kernel_rfl) ?_
      refine Ex.cond_f rfl ?_
      refine Ex.skip ?_
      refine Ex.regSeq (ExL.pures 3 rfl ?_)
      refine ExL.free (fr_load rfl rfl rfl rfl (CellO.blk (i := 0) rfl rfl)) rfl rfl rfl ?_
      refine ExL.free (fr_shr40 rfl rfl rfl) rfl rfl rfl ?_
      refine ExL.free (fr_and255w rfl rfl rfl) rfl rfl rfl ?_
      refine ExL.free (by first | exact fr_conv64 rfl rfl rfl rfl (by omega) | exact fr_conv rfl rfl rfl rfl) rfl rfl rfl ?_
      refine ExL.pures 1 rfl ?_
      refine ExL.nil ?_
      refine Ex.ret ?_
      refine MutQ.mk (_, _) rfl (.tmp rfl .nil) (rfl) 1 [0] (rfl) rfl (by refine ⟨?_, ?_⟩ <;> first | exact hx.1 | exact hx.2 | (dsimp only; omega))
  · refine ExD.done (by kernel_rfl) ?_
    refine Ex.cond_f rfl ?_
    refine Ex.skip ?_
    refine Ex.regSeq (ExL.pures 3 rfl ?_)
    refine ExL.free (fr_load rfl rfl rfl rfl (CellO.blk (i := 0) rfl rfl)) rfl rfl rfl ?_
    refine ExL.free (by first | exact fr_add64 rfl rfl rfl (by omega) | exact fr_add rfl rfl rfl) rfl rfl rfl ?_
    refine ExL.pures 2 rfl ?_
    refine ExL.op rfl (op_storeC (i := 0) rfl rfl rfl rfl rfl rfl rfl rfl rfl rfl ?_)
    refine ExL.nil ?_
    refine Ex.regSeq (ExL.pures 4 rfl ?_)
    refine ExL.free (fr_load rfl rfl rfl rfl (CellO.blk (i := 0) rfl rfl)) rfl rfl rfl ?_
    refine ExL.free (fr_mul rfl rfl rfl) rfl rfl rfl ?_
    refine ExL.pures 1 rfl ?_
    refine ExL.free (by first | exact fr_conv_u64 rfl rfl rfl rfl (by omega) | exact fr_conv rfl rfl rfl rfl) rfl rfl rfl ?_
    refine ExL.free (fr_add rfl rfl rfl) rfl rfl rfl ?_
    refine ExL.free (fr_add rfl rfl rfl) rfl rfl rfl ?_
    refine ExL.pures 2 rfl ?_
    refine ExL.op rfl (op_storeC (i := 0) rfl rfl rfl rfl rfl rfl rfl rfl rfl rfl ?_)
    refine ExL.nil ?_
    refine Ex.seq ?_
    refine Ex.drawSeqM rfl ?_
    refine ExD.take (i := 0) rfl (by kernel_rfl) (pureVal_ok rfl) ((List.Sublist.refl _)) rfl rfl rfl ?_
    refine ExD.take (i := 1) rfl (by kernel_rfl) (pureVal_ok rfl) ((List.Sublist.refl _)) rfl rfl rfl ?_
    refine ExD.take (i := 2) rfl (by kernel_rfl) (pureVal_ok rfl) ((List.Sublist.refl _)) rfl rfl rfl ?_
    refine ExD.take (i := 3) rfl (by kernel_rfl) (fr_load rfl rfl rfl rfl (CellO.blk (i := 0) rfl rfl)) ((List.Sublist.refl _)) rfl rfl rfl ?_
    refine ExD.take (i := 4) rfl (by kernel_rfl) (pureVal_ok rfl) ((List.Sublist.refl _)) rfl rfl rfl ?_
    refine ExD.take (i := 5) rfl (by kernel_rfl) (pureVal_ok rfl) ((List.Sublist.refl _)) rfl rfl rfl ?_
    refine ExD.take (i := 6) rfl (by kernel_rfl) (pureVal_ok rfl) ((List.Sublist.refl _)) rfl rfl rfl ?_
    refine ExD.take (i := 7) rfl (by kernel_rfl) (fr_load rfl rfl rfl rfl (CellO.blk (i := 0) rfl rfl)) ((List.Sublist.refl _)) rfl rfl rfl ?_
    refine ExD.take (i := 8) rfl (by kernel_rfl) (pureVal_ok rfl) ((List.Sublist.refl _)) rfl rfl rfl ?_
    refine ExD.cmp_leq (i := 9) rfl (by kernel_rfl) rfl rfl rfl ((List.Sublist.refl _)) rfl rfl rfl (fun h3 => ?_) (fun h3 => ?_)
    · refine ExD.done (by kernel_rfl) ?_
      refine Ex.cond_t rfl ?_
      refine Ex.regSeq (ExL.pures 2 rfl ?_)
      refine ExL.nil ?_
      refine Ex.ret ?_
      refine MutQ.mk (_, _) rfl (.tmp rfl .nil) (rfl) 1 [0] (rfl) rfl (by refine ⟨?_, ?_⟩ <;> first | exact hx.1 | exact hx.2 | (dsimp only; omega))
    · refine ExD.done (by kernel_rfl) ?_
      refine Ex.cond_f rfl ?_
      refine Ex.skip ?_
      refine Ex.regSeq (ExL.pures 3 rfl ?_)
      refine ExL.free (fr_load rfl rfl rfl rfl (CellO.blk (i := 0) rfl rfl)) rfl rfl rfl ?_
      refine ExL.free (fr_shr40 rfl rfl rfl) rfl rfl rfl ?_
      refine ExL.free (fr_and255w rfl rfl rfl) rfl rfl rfl ?_
      refine ExL.free (by first | exact fr_conv64 rfl rfl rfl rfl (by omega) | exact fr_conv rfl rfl rfl rfl) rfl rfl rfl ?_
      refine ExL.pures 1 rfl ?_
      refine ExL.nil ?_
      refine Ex.ret ?_
      refine MutQ.mk (_, _) rfl (.tmp rfl .nil) (rfl) 1 [0] (rfl) rfl (by refine ⟨?_, ?_⟩ <;> first | exact hx.1 | exact hx.2 | (dsimp only; omega))
theorem e_30 : Enters Tryz.prog 30 := Enters.of Tryz.func30 rfl
theorem c_pick (code : List Int) (Ac : Option Addr) (cc : Nat) (hcl : code.length ≤ maxLen) (hcu : Nums 255 code) (b : Nat) (at_ sd : Int) (hat : 0 ≤ at_ ∧ at_ ≤ 1000000000) (n : Int) (hn : n ≤ 9223372036854775807) : Mut Tryz.prog 30 [.pointer (some ⟨b, 0, none⟩), .int .i64 n] [.blk b [.slice Ac code.length cc, .int .i64 at_, .int .u64 sd] 81] (fun base w0 F => RdB base w0 Ac (code.flatMap (eI .u8))) (fun x : Int × Int × Int => .int .i64 x.1) (fun x => [.blk b [.slice Ac code.length cc, .int .i64 x.2.1, .int .u64 x.2.2] 81]) (fun x => 0 ≤ x.1 ∧ (x.1 < n ∨ x.1 = 0) ∧ at_ ≤ x.2.1 ∧ x.2.1 ≤ at_ + 2 ∧ x.1 ≤ 65535) := by
  refine Mut.of e_30 Tryz.func30 rfl Tryz.ntmps30 rfl rfl (fun base w0 F hfr => ?_)
  have hcode := hfr
  have hm0 : maxLen = 9223372036854775807 := rfl
  refine Ex.regSeq (ExL.pures 1 rfl ?_)
  refine ExL.nil ?_
  refine Ex.seq ?_
  refine Ex.regSeq (ExL.pures 1 rfl ?_)
  refine ExL.leq rfl rfl rfl rfl rfl rfl (fun h1 => ?_) (fun h1 => ?_)
  · refine ExL.nil ?_
    refine Ex.cond_t rfl ?_
    refine Ex.regSeq (ExL.pures 1 rfl ?_)
    refine ExL.nil ?_
    refine Ex.ret ?_
    refine MutQ.mk (_, _, _) rfl (.tmp rfl .nil) (rfl) 1 [0] (rfl) rfl (by refine ⟨?_, ?_, ?_, ?_, ?_⟩ <;> first | exact hm1 _ | exact .inl (hm2 _) | (dsimp only; omega) | (refine Int.le_trans (hm3 _ ?_) ?_ <;> omega))
  · refine ExL.nil ?_
    refine Ex.cond_f rfl ?_
    refine Ex.skip ?_
    refine Ex.regSeq (ExL.pures 1 rfl ?_)
    refine ExL.op rfl (op_mut rfl rfl rfl (c_next code _ _ (by omega) (by assumption) _ at_ _ (by omega)) (perm_at (i := 0) rfl) (hcode) rfl rfl (fun x2 hx2 => ?_))
    refine ExL.pures 1 rfl ?_
    refine ExL.nil ?_
    refine Ex.seq ?_
    refine Ex.regSeq (ExL.pures 1 rfl ?_)
    refine ExL.gtr rfl rfl rfl rfl rfl rfl (fun h3 => ?_) (fun h3 => ?_)
    · refine ExL.nil ?_
      refine Ex.cond_t rfl ?_
      refine Ex.region (ExL.pures 1 rfl ?_)
      refine ExL.free (by first | exact fr_mul64 rfl rfl rfl (by omega) | exact fr_mul rfl rfl rfl) rfl rfl rfl ?_
      refine ExL.pures 1 rfl ?_
      refine ExL.op rfl (op_mut rfl rfl rfl (c_next code _ _ (by omega) (by assumption) _ (at_ + 1) _ (by omega)) (perm_at (i := 0) rfl) (hcode) rfl rfl (fun x4 hx4 => ?_))
      refine ExL.free (by first | exact fr_add64 rfl rfl rfl (by omega) | exact fr_add rfl rfl rfl) rfl rfl rfl ?_
      refine ExL.pures 1 rfl ?_
      refine ExL.nil ?_
      have hm1 := fun z => Int.emod_nonneg z (show n ≠ 0 by omega)
      have hm2 := fun z => Int.emod_lt_of_pos z (show 0 < n by omega)
      have hm3 := fun z hz => mod_le (z := z) (n := n) hz (by omega)
      refine Ex.regSeq (ExL.pures 2 rfl ?_)
      refine ExL.free (by first | exact fr_remP rfl rfl rfl (by omega) | exact fr_rem rfl rfl rfl (by omega)) rfl rfl rfl ?_
      refine ExL.pures 1 rfl ?_
      refine ExL.nil ?_
      refine Ex.ret ?_
      refine MutQ.mk (_, _, _) rfl (.tmp rfl .nil) (rfl) 1 [0] (rfl) rfl (by refine ⟨?_, ?_, ?_, ?_, ?_⟩ <;> first | exact hm1 _ | exact .inl (hm2 _) | (dsimp only; omega) | (refine Int.le_trans (hm3 _ ?_) ?_ <;> omega))
    · refine ExL.nil ?_
      refine Ex.cond_f rfl ?_
      refine Ex.skip ?_
      have hm1 := fun z => Int.emod_nonneg z (show n ≠ 0 by omega)
      have hm2 := fun z => Int.emod_lt_of_pos z (show 0 < n by omega)
      have hm3 := fun z hz => mod_le (z := z) (n := n) hz (by omega)
      refine Ex.regSeq (ExL.pures 2 rfl ?_)
      refine ExL.free (by first | exact fr_remP rfl rfl rfl (by omega) | exact fr_rem rfl rfl rfl (by omega)) rfl rfl rfl ?_
      refine ExL.pures 1 rfl ?_
      refine ExL.nil ?_
      refine Ex.ret ?_
      refine MutQ.mk (_, _, _) rfl (.tmp rfl .nil) (rfl) 1 [0] (rfl) rfl (by refine ⟨?_, ?_, ?_, ?_, ?_⟩ <;> first | exact hm1 _ | exact .inl (hm2 _) | (dsimp only; omega) | (refine Int.le_trans (hm3 _ ?_) ?_ <;> omega))
end Go.Proofs.YtidnicdeogdedaaGreatDoor

/- What these functions of the program hand back, each proved by walking its operations. -/
set_option linter.unusedVariables false
set_option linter.unusedSimpArgs false
set_option maxRecDepth 4000
namespace Go.Proofs.YtidnicdeogdedaaGreatDoor
open Go Go.Sx Go.RowKit Go.W Go.Proofs
attribute [local irreducible] Ex ExL ExD Op1 Free RetQ MutQ Reads CellO SegO LoadsAs
theorem e_27 : Enters Tryz.prog 27 := Enters.of Tryz.func27 rfl
theorem c_l00From (code : List Int) (Ac : Option Addr) (cc : Nat) : Ret Tryz.prog 27 [.slice Ac code.length cc] (fun w => True) (fun x : Nat => .pointer (some ⟨x, 0, none⟩)) (fun x => [.blk x [.slice Ac code.length cc, .int .i64 0, .int .u64 0] 81]) (fun x => True) := by
  refine Ret.of e_27 Tryz.func27 rfl Tryz.ntmps27 rfl rfl (fun w hpre => ?_)
  refine Ex.regSeq (ExL.pures 1 rfl ?_)
  refine ExL.nil ?_
  refine Ex.regSeq (ExL.pures 1 rfl ?_)
  refine ExL.free (fr_build rfl rfl rfl rfl) rfl rfl rfl ?_
  refine ExL.op rfl (op_box rfl rfl rfl rfl rfl (fun b1 => ?_))
  refine ExL.pures 1 rfl ?_
  refine ExL.nil ?_
  refine Ex.ret ?_
  refine RetQ.mk _ rfl (.tmp rfl .nil) (rfl) [0] (rfl) rfl (trivial)
end Go.Proofs.YtidnicdeogdedaaGreatDoor

/- What these functions of the program hand back, each proved by walking its operations. -/
set_option linter.unusedVariables false
set_option linter.unusedSimpArgs false
set_option maxRecDepth 4000
namespace Go.Proofs.YtidnicdeogdedaaGreatDoor
open Go Go.Sx Go.RowKit Go.W Go.Proofs
attribute [local irreducible] Ex ExL ExD Op1 Free RetQ MutQ Reads CellO SegO LoadsAs
theorem e_4 : Enters Tryz.prog 4 := Enters.of Tryz.func4 rfl
theorem c_f6big (s : List Int) (As : Option Addr) (cs : Nat) (hls : s.length ≤ maxLen) : Ret Tryz.prog 4 [.slice As s.length cs] (fun w => True) (fun x : Unit => .bool (decide (4096 < s.length))) (fun x => []) (fun x => True) := by
  refine Ret.of e_4 Tryz.func4 rfl Tryz.ntmps4 rfl rfl (fun w hpre => ?_)
  have hm0 : maxLen = 9223372036854775807 := rfl
  refine Ex.regSeq (ExL.pures 1 rfl ?_)
  refine ExL.nil ?_
  refine Ex.regSeq (ExL.pures 2 rfl ?_)
  refine ExL.gtr rfl rfl rfl rfl rfl rfl (fun h1 => ?_) (fun h1 => ?_)
  · refine ExL.pures 1 rfl ?_
    refine ExL.nil ?_
    refine Ex.ret ?_
    refine RetQ.mk () rfl (.tmp rfl .nil) (tB (by first | exact dec_t (by omega) | exact dec_f (by omega) | exact decide_eq_decide.2 (by omega))) [] (rfl) rfl (trivial)
  · refine ExL.pures 1 rfl ?_
    refine ExL.nil ?_
    refine Ex.ret ?_
    refine RetQ.mk () rfl (.tmp rfl .nil) (tB (by first | exact dec_t (by omega) | exact dec_f (by omega) | exact decide_eq_decide.2 (by omega))) [] (rfl) rfl (trivial)
theorem e_56 : Enters Tryz.prog 56 := Enters.of Tryz.func56 rfl
theorem c_among (code : List Int) (Ac : Option Addr) (cc : Nat) (hcl : code.length ≤ maxLen) (hcu : Nums 255 code) (b : Nat) (at_ sd : Int) (hat : 0 ≤ at_ ∧ at_ ≤ 1000000000) (l : List Int) (Al : Option Addr) (cl : Nat) (hll : 0 < l.length ∧ l.length ≤ 60000) : Mut Tryz.prog 56 [.pointer (some ⟨b, 0, none⟩), .slice Al l.length cl] [.blk b [.slice Ac code.length cc, .int .i64 at_, .int .u64 sd] 81, .row (.slice Al l.length cl) 2 1 l.length (l.flatMap (eI .i64))] (fun base w0 F => RdB base w0 Ac (code.flatMap (eI .u8))) (fun x : Nat × Int × Int => .int .i64 (l.getD x.1 0)) (fun x => [.blk b [.slice Ac code.length cc, .int .i64 x.2.1, .int .u64 x.2.2] 81, .row (.slice Al l.length cl) 2 1 l.length (l.flatMap (eI .i64))]) (fun x => x.1 < l.length ∧ at_ ≤ x.2.1 ∧ x.2.1 ≤ at_ + 2) := by
  refine Mut.of e_56 Tryz.func56 rfl Tryz.ntmps56 rfl rfl (fun base w0 F hfr => ?_)
  have hcode := hfr
  have hm0 : maxLen = 9223372036854775807 := rfl
  refine Ex.regSeq (ExL.pures 1 rfl ?_)
  refine ExL.nil ?_
  refine Ex.regSeq (ExL.pures 4 rfl ?_)
  refine ExL.op rfl (op_mut rfl rfl rfl (c_pick code _ _ (by omega) (by assumption) _ at_ _ (by omega) l.length (by omega)) (perm_at (i := 0) rfl) (hcode) rfl rfl (fun x1 hx1 => ?_))
  refine ExL.free (fr_indexAddrR (sz := 1) 1 rfl rfl rfl rfl rfl rfl (by omega)) rfl rfl rfl ?_
  refine ExL.free (fr_load rfl rfl rfl rfl (by first | exact cellN (Reads.row (i := 1) rfl) (eI_len .i64) 0 0 rfl (by omega) rfl | exact cellF (Reads.row (i := 1) rfl) (eI_len .i64) 0 0 rfl (by omega) rfl)) rfl rfl rfl ?_
  refine ExL.pures 1 rfl ?_
  refine ExL.nil ?_
  refine Ex.ret ?_
  refine MutQ.mk (x1.1.toNat, x1.2.1, x1.2.2) rfl (.tmp rfl .nil) (tI (by first | rfl | (simp; done))) 2 [0, 1] (rfl) rfl (by refine ⟨?_, ?_, ?_⟩ <;> dsimp only <;> omega)
theorem e_28 : Enters Tryz.prog 28 := Enters.of Tryz.func28 rfl
theorem c_one (code : List Int) (Ac : Option Addr) (cc : Nat) (hcl : code.length ≤ maxLen) (hcu : Nums 255 code) (b : Nat) (at_ sd : Int) (hat : 0 ≤ at_ ∧ at_ ≤ 1000000000) (n : Int) (hn : n ≤ 60000) : Mut Tryz.prog 28 [.pointer (some ⟨b, 0, none⟩), .int .i64 n] [.blk b [.slice Ac code.length cc, .int .i64 at_, .int .u64 sd] 81] (fun base w0 F => RdB base w0 Ac (code.flatMap (eI .u8))) (fun x : Bool × Int × Int => .bool x.1) (fun x => [.blk b [.slice Ac code.length cc, .int .i64 x.2.1, .int .u64 x.2.2] 81]) (fun x => at_ ≤ x.2.1 ∧ x.2.1 ≤ at_ + 2) := by
  refine Mut.of e_28 Tryz.func28 rfl Tryz.ntmps28 rfl rfl (fun base w0 F hfr => ?_)
  have hcode := hfr
  have hm0 : maxLen = 9223372036854775807 := rfl
  refine Ex.regSeq (ExL.pures 1 rfl ?_)
  refine ExL.nil ?_
  refine Ex.regSeq (ExL.pures 2 rfl ?_)
  refine ExL.op rfl (op_mut rfl rfl rfl (c_pick code _ _ (by omega) (by assumption) _ at_ _ (by omega) n (by omega)) (perm_at (i := 0) rfl) (hcode) rfl rfl (fun x1 hx1 => ?_))
  refine ExL.free (fr_eql rfl rfl rfl) rfl rfl rfl ?_
  refine ExL.pures 1 rfl ?_
  refine ExL.nil ?_
  refine Ex.ret ?_
  refine MutQ.mk (_, x1.2.1, x1.2.2) rfl (.tmp rfl .nil) (rfl) 1 [0] (rfl) rfl (by constructor <;> dsimp only <;> omega)
end Go.Proofs.YtidnicdeogdedaaGreatDoor

/- What these functions of the program hand back, each proved by walking its operations. -/
set_option linter.unusedVariables false
set_option linter.unusedSimpArgs false
set_option maxRecDepth 4000
namespace Go.Proofs.YtidnicdeogdedaaGreatDoor
open Go Go.Sx Go.RowKit Go.W Go.Proofs
attribute [local irreducible] Ex ExL ExD Op1 Free RetQ MutQ Reads CellO SegO LoadsAs
theorem e_26 : Enters Tryz.prog 26 := Enters.of Tryz.func26 rfl
theorem c_l01Drawn (code : List Int) (Ac : Option Addr) (cc : Nat) (hcl : code.length ≤ maxLen) (hcu : Nums 255 code) (b : Nat) (at_ sd : Int) (hat : 0 ≤ at_ ∧ at_ ≤ 1000000) : Mut Tryz.prog 26 [.pointer (some ⟨b, 0, none⟩)] [.blk b [.slice Ac code.length cc, .int .i64 at_, .int .u64 sd] 81] (fun base w0 F => RdB base w0 Ac (code.flatMap (eI .u8))) (fun x : (Int × Int) × (Option Addr × Nat) × List Int => .slice x.2.1.1 x.2.2.length x.2.1.2) (fun x => [.blk b [.slice Ac code.length cc, .int .i64 x.1.1, .int .u64 x.1.2] 81, .row (.slice x.2.1.1 x.2.2.length x.2.1.2) 5 1 x.2.2.length (x.2.2.flatMap (eI .u8))]) (fun x => DrStk x.2.2 ∧ at_ ≤ x.1.1 ∧ x.1.1 ≤ at_ + 10) := by
  refine Mut.of e_26 Tryz.func26 rfl Tryz.ntmps26 rfl rfl (fun base w0 F hfr => ?_)
  have hcode := hfr
  have hm0 : maxLen = 9223372036854775807 := rfl
  refine Ex.regSeq (ExL.pures 1 rfl ?_)
  refine ExL.nil ?_
  refine Ex.regSeq (ExL.pures 0 rfl ?_)
  refine ExL.op rfl (op_buildSlice (sz := 1) rfl rfl rfl rfl rfl rfl rfl rfl (by decide) rfl rfl rfl (fun r1 => ?_))
  refine ExL.pures 1 rfl ?_
  refine ExL.nil ?_
  refine Ex.seq ?_
  refine Ex.regSeq (ExL.pures 1 rfl ?_)
  refine ExL.op rfl (op_mut rfl rfl rfl (c_pick code _ _ (by omega) (by assumption) _ at_ _ (by omega) 4 (by omega)) (perm_at (i := 1) rfl) (hcode) rfl rfl (fun x2 hx2 => ?_))
  refine ExL.free (by first | exact fr_add64 rfl rfl rfl (by omega) | exact fr_add rfl rfl rfl) rfl rfl rfl ?_
  refine ExL.pures 1 rfl ?_
  refine ExL.nil ?_
  refine Ex.block ?_
  refine Ex.loopK (X := StS) (fun q => [(3, .slice q.A q.l.length q.c), (4, .int .i64 q.k)]) (fun q => [.blk b [.slice Ac code.length cc, .int .i64 q.at_, .int .u64 q.sd] 81, .row (.slice q.A q.l.length q.c) 5 1 q.l.length (q.l.flatMap (eI .u8))]) (fun q => StkP q.l ∧ (q.l.length : Int) + q.k ≤ 4 ∧ 1 ≤ (q.l.length : Int) + q.k ∧ 0 ≤ q.k ∧ at_ ≤ q.at_ ∧ q.at_ ≤ at_ + 2 + 2 * q.l.length) (fun q => q.k.toNat) (⟨[], (1 + x2.1), x2.2.1, x2.2.2, (some ⟨r1, 0, none⟩), 0⟩ : StS) [(0, _), (2, _)] (F) 2 [0, 1] ⟨rfl, rfl, trivial⟩ ⟨rfl, rfl, trivial⟩ (rfl) rfl ⟨StkP.nil, by dsimp only [List.length_nil]; omega, by dsimp only [List.length_nil]; omega, by dsimp only; omega, by dsimp only; omega, by dsimp only [List.length_nil]; omega⟩ (fun q hI => ?_)
  have hI : StkP q.l ∧ (q.l.length : Int) + q.k ≤ 4 ∧ 1 ≤ (q.l.length : Int) + q.k ∧ 0 ≤ q.k ∧ at_ ≤ q.at_ ∧ q.at_ ≤ at_ + 2 + 2 * q.l.length := hI
  obtain ⟨hP, hlk, hlk1, hk0, hat1, hat2⟩ := hI
  refine Ex.seq ?_
  refine Ex.regSeq (ExL.pures 1 rfl ?_)
  refine ExL.gtr rfl rfl rfl rfl rfl rfl (fun h3 => ?_) (fun h3 => ?_)
  · refine ExL.nil ?_
    refine Ex.cond_t rfl ?_
    refine Ex.skip ?_
    refine Ex.seq ?_
    refine Ex.block ?_
    refine Ex.region (ExL.pures 2 rfl ?_)
    refine ExL.op rfl (op_buildSlice (sz := 1) rfl rfl rfl rfl rfl rfl rfl rfl (by decide) rfl rfl rfl (fun r4 => ?_))
    refine ExL.op rfl (op_mut rfl rfl rfl (c_among code _ _ (by omega) (by assumption) _ q.at_ _ (by omega) [10, 10, 10, 60, 24, 2, 3, 12, 100] _ _ (by decide)) (perm_gt (i := 1) (j := 0) rfl rfl rfl) (hcode) rfl rfl (fun x5 hx5 => ?_))
    have hmx5 := getD_mem (s := [10, 10, 10, 60, 24, 2, 3, 12, 100]) 0 hx5.1
    simp only [List.mem_cons, List.not_mem_nil, or_false] at hmx5
    refine ExL.free (by first | exact fr_conv_u8 rfl rfl rfl rfl (by omega) | exact fr_conv rfl rfl rfl rfl) rfl rfl rfl ?_
    refine ExL.op rfl (op_buildSlice (sz := 1) rfl rfl rfl rfl rfl rfl rfl rfl (by decide) rfl rfl rfl (fun r6 => ?_))
    refine ExL.op rfl (op_append (sz := 1) (bytes := 1) (i := 3) rfl rfl rfl rfl (Reads.row (i := 0) rfl) rfl (fun e => nomatch e) rfl rfl rfl rfl (by constructor <;> first | omega | (unfold maxLen; omega)) rfl rfl (fun A7 cA7 => ?_))
    refine ExL.pures 1 rfl ?_
    refine ExL.nil ?_
    refine Ex.region (ExL.pures 1 rfl ?_)
    refine ExL.free (by first | exact fr_sub64 rfl rfl rfl (by omega) | exact fr_sub rfl rfl rfl) rfl rfl rfl ?_
    refine ExL.pures 1 rfl ?_
    refine ExL.nil ?_
    refine Hand.mk (⟨q.l ++ [([10, 10, 10, 60, 24, 2, 3, 12, 100].getD x5.1 0)], q.k - 1, x5.2.1, x5.2.2, A7, cA7⟩ : StS) 4 [1, 3] ⟨(by rw [List.length_append]; rfl), rfl, trivial⟩ ⟨rfl, rfl, trivial⟩ (by rw [List.length_append, List.flatMap_append]; rfl) rfl (⟨hP.next (by omega), by dsimp only; rw [List.length_append, List.length_singleton]; omega, by dsimp only; rw [List.length_append, List.length_singleton]; omega, by dsimp only; omega, by dsimp only; omega, by dsimp only; rw [List.length_append, List.length_singleton]; push_cast; omega⟩) (by dsimp only; omega)
  · refine ExL.nil ?_
    refine Ex.cond_f rfl ?_
    refine Ex.exit ?_
    refine Ex.regSeq (ExL.pures 2 rfl ?_)
    refine ExL.nil ?_
    refine Ex.ret ?_
    refine MutQ.mk ((q.at_, q.sd), (q.A, q.c), q.l) rfl (.tmp rfl .nil) (rfl) 2 [0, 1] (rfl) rfl (⟨⟨hP, by dsimp only; omega, by dsimp only; omega⟩, by dsimp only; omega, by dsimp only; omega⟩)
end Go.Proofs.YtidnicdeogdedaaGreatDoor

/-
  DERIVED: THE SHELF's CONTRACTS AT THIS DUMP, IN PLAIN WORDS (tools/lay-plain.mjs out of 'TryzShelf.lean', which tools/lay-shelf.mjs wrote): THE SAME DECLARATIONS UNDER THE SAME NAMES: 'import', 'namespace', 'open', 'def', 'theorem' AND NOTHING ELSE: no command of the shelf's: FOR A HAND-IN. Each laying: the table of numbers ('.._ren') and one theorem, a field a fact of the dump's own or the kernel's comparison; each contract: ONE APPLICATION.
-/
namespace Go.Proofs
open Go.Shelf
def Tryz.lays156_ren : Go.Shelf.Ren := ⟨fun | 156 => 43 | 165 => 65 | 166 => 66 | 169 => 67 | 240 => 83 | 241 => 84 | 276 => 100 | 277 => 101 | n => n, fun | 31 => 62 | 9 => 9 | 3 => 3 | 4 => 4 | 0 => 0 | 20 => 20 | 72 => 90 | 76 => 92 | 70 => 88 | 37 => 22 | 75 => 66 | 127 => 107 | 164 => 125 | 5 => 5 | 80 => 94 | n => n, fun | n => n⟩
theorem Tryz.lays156 : Go.Proofs.Lays.n156 Tryz.prog Tryz.lays156_ren := {
  mixed := by kernel_rfl
  f156 := Tryz.func43.trans (congrArg some (by kernel_rfl))
  f165 := Tryz.func65.trans (congrArg some (by kernel_rfl))
  f166 := Tryz.func66.trans (congrArg some (by kernel_rfl))
  f169 := Tryz.func67.trans (congrArg some (by kernel_rfl))
  f240 := Tryz.func83.trans (congrArg some (by kernel_rfl))
  f241 := Tryz.func84.trans (congrArg some (by kernel_rfl))
  f276 := Tryz.func100.trans (congrArg some (by kernel_rfl))
  f277 := Tryz.func101.trans (congrArg some (by kernel_rfl))
  t0 := Tryz.underlying0
  a0 := Tryz.isAgg0
  z0 := Tryz.sizeOf0
  v0 := Tryz.zeroValue0
  t3 := Tryz.underlying3
  a3 := Tryz.isAgg3
  z3 := Tryz.sizeOf3
  v3 := Tryz.zeroValue3
  t4 := Tryz.underlying4
  a4 := Tryz.isAgg4
  z4 := Tryz.sizeOf4
  v4 := Tryz.zeroValue4
  t9 := Tryz.underlying9
  a9 := Tryz.isAgg9
  z9 := Tryz.sizeOf9
  v9 := Tryz.zeroValue9
  t20 := Tryz.underlying20
  a20 := Tryz.isAgg20
  z20 := Tryz.sizeOf20
  v20 := Tryz.zeroValue20
  t31 := Tryz.underlying62
  a31 := Tryz.isAgg62
  z31 := Tryz.sizeOf62
  v31 := Tryz.zeroValue62
  t37 := Tryz.underlying22
  a37 := Tryz.isAgg22
  z37 := Tryz.sizeOf22
  v37 := Tryz.zeroValue22
  t70 := Tryz.underlying88
  a70 := Tryz.isAgg88
  z70 := Tryz.sizeOf88
  v70 := Tryz.zeroValue88
  t72 := Tryz.underlying90
  a72 := Tryz.isAgg90
  z72 := Tryz.sizeOf90
  v72 := Tryz.zeroValue90
  t75 := Tryz.underlying66
  a75 := Tryz.isAgg66
  z75 := Tryz.sizeOf66
  v75 := Tryz.zeroValue66
  t76 := Tryz.underlying92
  a76 := Tryz.isAgg92
  z76 := Tryz.sizeOf92
  v76 := Tryz.zeroValue92
  t127 := Tryz.underlying107
  a127 := Tryz.isAgg107
  z127 := Tryz.sizeOf107
  v127 := Tryz.zeroValue107
  t164 := Tryz.underlying125
  a164 := Tryz.isAgg125
  z164 := Tryz.sizeOf125
  v164 := Tryz.zeroValue125 }
theorem Tryz.Builder_Extra_156 : Builder.Extra Tryz.prog Tryz.lays156_ren := {
  sizeBuilder := by kernel_rfl
  liesBuilder := by kernel_rfl
  t5 := Tryz.underlying5
  a5 := Tryz.isAgg5
  z5 := Tryz.sizeOf5
  v5 := Tryz.zeroValue5
  infoByte := by kernel_rfl
  cellsByte := by kernel_rfl
  sizeByte := by kernel_rfl
  neB5 := by decide }
open Go.RowKit in
/-- No element: the empty string; the world is as it was. (Whatever the slice's address and capacity: a nil slice too.) (LAID: no walk: one application.) -/
theorem Tryz.strings_Join_none (a : Option Addr) (c : Nat) (sep : ByteArray) (w : World) :
    Calls Tryz.prog 43 #[.slice a 0 c, .string sep] w fun e w' => e = .returned (.string ⟨#[]⟩) ∧ w' = w := Any.strings_Join_none Tryz.lays156 Tryz.Builder_Extra_156 a c sep w
open Go.RowKit in
/-- strings.Join: "Join concatenates the elements of its first argument to create a single string. The separator string sep is placed between elements in the resulting string.": HOWEVER MANY ELEMENTS. Below the heap's end the world is as it was. (LAID: no walk: one application.) -/
theorem Tryz.strings_Join (bk o c : Nat) (xs : List ByteArray) (sep : ByteArray) (w : World) (hcells : ∀ (j : Nat) x, xs[j]? = some x → w.cell? ⟨bk, o + j, none⟩ = some (.string x)) (hbk : bk < w.heap.size) (hN : xs.length ≤ 140737488355328) (hcap : xs.length ≤ c) (hlen : (Lib.join (xs.map (·.data.toList)) sep.data.toList).length ≤ 140737488355328) :
    Calls Tryz.prog 43 #[.slice (some ⟨bk, o, none⟩) xs.length c, .string sep] w fun e w' => e = .returned (.string ⟨(Lib.join (xs.map (·.data.toList)) sep.data.toList).toArray⟩) ∧ Below w.heap.size w w' := Any.strings_Join Tryz.lays156 Tryz.Builder_Extra_156 bk o c xs sep w hcells hbk hN hcap hlen
def Tryz.laysM171_ren : Go.Shelf.Ren := ⟨fun | 171 => 95 | 243 => 111 | 246 => 82 | 283 => 96 | 284 => 97 | 285 => 98 | 286 => 99 | 129 => 113 | 317 => 112 | 318 => 114 | 319 => 115 | 320 => 116 | 337 => 122 | 338 => 123 | n => n, fun | 3 => 3 | 9 => 9 | 2 => 2 | 4 => 4 | 171 => 120 | 0 => 0 | 53 => 64 | 37 => 22 | 5 => 5 | 173 => 123 | 212 => 137 | 51 => 138 | 20 => 20 | 213 => 139 | 46 => 98 | 232 => 152 | 233 => 153 | n => n, fun | 17 => 3 | 18 => 6 | 19 => 7 | n => n⟩
theorem Tryz.laysM171 : Go.Proofs.LaysM.n171 Tryz.prog Tryz.laysM171_ren := {
  mixed := by kernel_rfl
  f129 := Tryz.func113.trans (congrArg some (by kernel_rfl))
  f171 := Tryz.func95.trans (congrArg some (by kernel_rfl))
  f243 := Tryz.func111.trans (congrArg some (by kernel_rfl))
  f246 := Tryz.func82.trans (congrArg some (by kernel_rfl))
  f283 := Tryz.func96.trans (congrArg some (by kernel_rfl))
  f284 := Tryz.func97.trans (congrArg some (by kernel_rfl))
  f285 := Tryz.func98.trans (congrArg some (by kernel_rfl))
  f286 := Tryz.func99.trans (congrArg some (by kernel_rfl))
  f317 := Tryz.func112.trans (congrArg some (by kernel_rfl))
  f318 := Tryz.func114.trans (congrArg some (by kernel_rfl))
  f319 := Tryz.func115.trans (congrArg some (by kernel_rfl))
  f320 := Tryz.func116.trans (congrArg some (by kernel_rfl))
  f337 := Tryz.func122.trans (congrArg some (by kernel_rfl))
  f338 := Tryz.func123.trans (congrArg some (by kernel_rfl))
  t0 := Tryz.underlying0
  a0 := Tryz.isAgg0
  z0 := Tryz.sizeOf0
  v0 := Tryz.zeroValue0
  t2 := Tryz.underlying2
  a2 := Tryz.isAgg2
  z2 := Tryz.sizeOf2
  v2 := Tryz.zeroValue2
  t3 := Tryz.underlying3
  a3 := Tryz.isAgg3
  z3 := Tryz.sizeOf3
  v3 := Tryz.zeroValue3
  t4 := Tryz.underlying4
  a4 := Tryz.isAgg4
  z4 := Tryz.sizeOf4
  v4 := Tryz.zeroValue4
  t5 := Tryz.underlying5
  a5 := Tryz.isAgg5
  z5 := Tryz.sizeOf5
  v5 := Tryz.zeroValue5
  t9 := Tryz.underlying9
  a9 := Tryz.isAgg9
  z9 := Tryz.sizeOf9
  v9 := Tryz.zeroValue9
  t20 := Tryz.underlying20
  a20 := Tryz.isAgg20
  z20 := Tryz.sizeOf20
  v20 := Tryz.zeroValue20
  t37 := Tryz.underlying22
  a37 := Tryz.isAgg22
  z37 := Tryz.sizeOf22
  v37 := Tryz.zeroValue22
  t46 := Tryz.underlying98
  a46 := Tryz.isAgg98
  z46 := Tryz.sizeOf98
  v46 := Tryz.zeroValue98
  t51 := Tryz.underlying138
  a51 := Tryz.isAgg138
  z51 := Tryz.sizeOf138
  v51 := Tryz.zeroValue138
  t53 := Tryz.underlying64
  a53 := Tryz.isAgg64
  z53 := Tryz.sizeOf64
  v53 := Tryz.zeroValue64
  t171 := Tryz.underlying120
  a171 := Tryz.isAgg120
  z171 := Tryz.sizeOf120
  v171 := Tryz.zeroValue120
  t173 := Tryz.underlying123
  a173 := Tryz.isAgg123
  z173 := Tryz.sizeOf123
  v173 := Tryz.zeroValue123
  t212 := Tryz.underlying137
  a212 := Tryz.isAgg137
  z212 := Tryz.sizeOf137
  v212 := Tryz.zeroValue137
  t213 := Tryz.underlying139
  a213 := Tryz.isAgg139
  z213 := Tryz.sizeOf139
  t232 := Tryz.underlying152
  a232 := Tryz.isAgg152
  z232 := Tryz.sizeOf152
  v232 := Tryz.zeroValue152
  t233 := Tryz.underlying153
  a233 := Tryz.isAgg153
  z233 := Tryz.sizeOf153
  v233 := Tryz.zeroValue153
  g17 := by kernel_rfl
  g18 := by kernel_rfl
  g19 := by kernel_rfl
  i0 := by kernel_rfl
  i2 := by kernel_rfl
  i3 := by kernel_rfl
  i4 := by kernel_rfl
  i5 := by kernel_rfl
  i9 := by kernel_rfl
  i20 := by kernel_rfl
  i37 := by kernel_rfl
  i46 := by kernel_rfl
  i51 := by kernel_rfl
  i53 := by kernel_rfl
  i171 := by kernel_rfl
  i173 := by kernel_rfl
  i212 := by kernel_rfl
  i232 := by kernel_rfl
  i233 := by kernel_rfl
  m17 := by kernel_rfl
  m18 := by kernel_rfl
  m19 := by kernel_rfl }
open Go.RowKit Go.Sort Go.Lib in
/-- strconv.Itoa: "Itoa is equivalent to FormatInt(int64(i), 10).": i's DECIMAL NUMERAL ('Lib.itoa': a '-' where i is negative, then the digits), FOR EVERY int. The world behind the call: the world before it, new blocks behind the heap (the library's 'var a [24]byte'), draws. (LAID: no walk: one application.) -/
theorem Tryz.strconv_Itoa (n : Int) (h0 : -9223372036854775808 ≤ n) (h1 : n ≤ 9223372036854775807) (w : World) (htab : Lib.TabIs Tryz.prog w "internal/strconv.uint64pow10" .u64 Lib.pow10Tab) :
    Calls Tryz.prog 95 #[.int .i64 n] w fun e w' => e = .returned (.string ⟨(Lib.itoa n).toArray⟩) ∧ ∃ k os, w' = grow (w.drewN k) os := Any.strconv_Itoa Tryz.laysM171 n h0 h1 w htab
def Tryz.laysM173_ren : Go.Shelf.Ren := ⟨fun | 173 => 64 | 246 => 82 | 283 => 96 | 284 => 97 | 285 => 98 | 286 => 99 | 129 => 113 | 317 => 112 | 318 => 114 | 319 => 115 | 320 => 116 | 337 => 122 | 338 => 123 | n => n, fun | 2 => 2 | 3 => 3 | 9 => 9 | 4 => 4 | 171 => 120 | 0 => 0 | 53 => 64 | 37 => 22 | 5 => 5 | 173 => 123 | 212 => 137 | 51 => 138 | 20 => 20 | 213 => 139 | 46 => 98 | 232 => 152 | 233 => 153 | n => n, fun | 17 => 3 | 18 => 6 | 19 => 7 | n => n⟩
theorem Tryz.laysM173 : Go.Proofs.LaysM.n173 Tryz.prog Tryz.laysM173_ren := {
  mixed := by kernel_rfl
  f129 := Tryz.func113.trans (congrArg some (by kernel_rfl))
  f173 := Tryz.func64.trans (congrArg some (by kernel_rfl))
  f246 := Tryz.func82.trans (congrArg some (by kernel_rfl))
  f283 := Tryz.func96.trans (congrArg some (by kernel_rfl))
  f284 := Tryz.func97.trans (congrArg some (by kernel_rfl))
  f285 := Tryz.func98.trans (congrArg some (by kernel_rfl))
  f286 := Tryz.func99.trans (congrArg some (by kernel_rfl))
  f317 := Tryz.func112.trans (congrArg some (by kernel_rfl))
  f318 := Tryz.func114.trans (congrArg some (by kernel_rfl))
  f319 := Tryz.func115.trans (congrArg some (by kernel_rfl))
  f320 := Tryz.func116.trans (congrArg some (by kernel_rfl))
  f337 := Tryz.func122.trans (congrArg some (by kernel_rfl))
  f338 := Tryz.func123.trans (congrArg some (by kernel_rfl))
  t0 := Tryz.underlying0
  a0 := Tryz.isAgg0
  z0 := Tryz.sizeOf0
  v0 := Tryz.zeroValue0
  t2 := Tryz.underlying2
  a2 := Tryz.isAgg2
  z2 := Tryz.sizeOf2
  v2 := Tryz.zeroValue2
  t3 := Tryz.underlying3
  a3 := Tryz.isAgg3
  z3 := Tryz.sizeOf3
  v3 := Tryz.zeroValue3
  t4 := Tryz.underlying4
  a4 := Tryz.isAgg4
  z4 := Tryz.sizeOf4
  v4 := Tryz.zeroValue4
  t5 := Tryz.underlying5
  a5 := Tryz.isAgg5
  z5 := Tryz.sizeOf5
  v5 := Tryz.zeroValue5
  t9 := Tryz.underlying9
  a9 := Tryz.isAgg9
  z9 := Tryz.sizeOf9
  v9 := Tryz.zeroValue9
  t20 := Tryz.underlying20
  a20 := Tryz.isAgg20
  z20 := Tryz.sizeOf20
  v20 := Tryz.zeroValue20
  t37 := Tryz.underlying22
  a37 := Tryz.isAgg22
  z37 := Tryz.sizeOf22
  v37 := Tryz.zeroValue22
  t46 := Tryz.underlying98
  a46 := Tryz.isAgg98
  z46 := Tryz.sizeOf98
  v46 := Tryz.zeroValue98
  t51 := Tryz.underlying138
  a51 := Tryz.isAgg138
  z51 := Tryz.sizeOf138
  v51 := Tryz.zeroValue138
  t53 := Tryz.underlying64
  a53 := Tryz.isAgg64
  z53 := Tryz.sizeOf64
  v53 := Tryz.zeroValue64
  t171 := Tryz.underlying120
  a171 := Tryz.isAgg120
  z171 := Tryz.sizeOf120
  v171 := Tryz.zeroValue120
  t173 := Tryz.underlying123
  a173 := Tryz.isAgg123
  z173 := Tryz.sizeOf123
  v173 := Tryz.zeroValue123
  t212 := Tryz.underlying137
  a212 := Tryz.isAgg137
  z212 := Tryz.sizeOf137
  v212 := Tryz.zeroValue137
  t213 := Tryz.underlying139
  a213 := Tryz.isAgg139
  z213 := Tryz.sizeOf139
  t232 := Tryz.underlying152
  a232 := Tryz.isAgg152
  z232 := Tryz.sizeOf152
  v232 := Tryz.zeroValue152
  t233 := Tryz.underlying153
  a233 := Tryz.isAgg153
  z233 := Tryz.sizeOf153
  v233 := Tryz.zeroValue153
  g17 := by kernel_rfl
  g18 := by kernel_rfl
  g19 := by kernel_rfl
  i0 := by kernel_rfl
  i2 := by kernel_rfl
  i3 := by kernel_rfl
  i4 := by kernel_rfl
  i5 := by kernel_rfl
  i9 := by kernel_rfl
  i20 := by kernel_rfl
  i37 := by kernel_rfl
  i46 := by kernel_rfl
  i51 := by kernel_rfl
  i53 := by kernel_rfl
  i171 := by kernel_rfl
  i173 := by kernel_rfl
  i212 := by kernel_rfl
  i232 := by kernel_rfl
  i233 := by kernel_rfl
  m17 := by kernel_rfl
  m18 := by kernel_rfl
  m19 := by kernel_rfl }
open Go.RowKit Go.Sort Go.Lib in
/-- strconv.FormatInt: "FormatInt returns the string representation of i in the given base": AT BASE 10: i's decimal numeral, for every int64. (LAID: no walk: one application.) -/
theorem Tryz.strconv_FormatInt_10 (n : Int) (h0 : -9223372036854775808 ≤ n) (h1 : n ≤ 9223372036854775807) (w : World) (htab : Lib.TabIs Tryz.prog w "internal/strconv.uint64pow10" .u64 Lib.pow10Tab) :
    Calls Tryz.prog 64 #[.int .i64 n, .int .i64 10] w fun e w' => e = .returned (.string ⟨(Lib.itoa n).toArray⟩) ∧ ∃ k os, w' = grow (w.drewN k) os := Any.strconv_FormatInt_10 Tryz.laysM173 n h0 h1 w htab
def Tryz.laysPu14_ren : Go.Shelf.Ren := ⟨fun | 14 => 40 | 16 => 61 | 17 => 62 | 19 => 76 | 20 => 77 | 21 => 78 | 22 => 79 | 23 => 80 | 24 => 81 | 25 => 93 | 27 => 95 | 26 => 94 | 28 => 111 | 29 => 82 | 30 => 96 | 31 => 97 | 32 => 98 | 33 => 99 | 35 => 113 | 34 => 112 | 36 => 114 | 37 => 115 | 38 => 116 | 39 => 122 | 40 => 123 | n => n, fun | 9 => 9 | 3 => 3 | 22 => 64 | 24 => 66 | 25 => 67 | 4 => 4 | 34 => 101 | 5 => 5 | 36 => 98 | 37 => 22 | 0 => 0 | 39 => 104 | 21 => 21 | 44 => 117 | 47 => 107 | 50 => 135 | 48 => 133 | 2 => 2 | 52 => 120 | 55 => 123 | 59 => 137 | 60 => 138 | 20 => 20 | 61 => 139 | 65 => 152 | 66 => 153 | 67 => 94 | n => n, fun | 0 => 0 | 1 => 1 | 2 => 3 | 3 => 6 | 4 => 7 | n => n⟩
theorem Tryz.laysPu14 : Go.Proofs.LaysPu.n14 Tryz.prog Tryz.laysPu14_ren := {
  mixed := by kernel_rfl
  f14 := Tryz.func40.trans (congrArg some (by kernel_rfl))
  f16 := Tryz.func61.trans (congrArg some (by kernel_rfl))
  f17 := Tryz.func62.trans (congrArg some (by kernel_rfl))
  f19 := Tryz.func76.trans (congrArg some (by kernel_rfl))
  f20 := Tryz.func77.trans (congrArg some (by kernel_rfl))
  f21 := Tryz.func78.trans (congrArg some (by kernel_rfl))
  f22 := Tryz.func79.trans (congrArg some (by kernel_rfl))
  f23 := Tryz.func80.trans (congrArg some (by kernel_rfl))
  f24 := Tryz.func81.trans (congrArg some (by kernel_rfl))
  f25 := Tryz.func93.trans (congrArg some (by kernel_rfl))
  f26 := Tryz.func94.trans (congrArg some (by kernel_rfl))
  f27 := Tryz.func95.trans (congrArg some (by kernel_rfl))
  f28 := Tryz.func111.trans (congrArg some (by kernel_rfl))
  f29 := Tryz.func82.trans (congrArg some (by kernel_rfl))
  f30 := Tryz.func96.trans (congrArg some (by kernel_rfl))
  f31 := Tryz.func97.trans (congrArg some (by kernel_rfl))
  f32 := Tryz.func98.trans (congrArg some (by kernel_rfl))
  f33 := Tryz.func99.trans (congrArg some (by kernel_rfl))
  f34 := Tryz.func112.trans (congrArg some (by kernel_rfl))
  f35 := Tryz.func113.trans (congrArg some (by kernel_rfl))
  f36 := Tryz.func114.trans (congrArg some (by kernel_rfl))
  f37 := Tryz.func115.trans (congrArg some (by kernel_rfl))
  f38 := Tryz.func116.trans (congrArg some (by kernel_rfl))
  f39 := Tryz.func122.trans (congrArg some (by kernel_rfl))
  f40 := Tryz.func123.trans (congrArg some (by kernel_rfl))
  t0 := Tryz.underlying0
  a0 := Tryz.isAgg0
  z0 := Tryz.sizeOf0
  v0 := Tryz.zeroValue0
  i0 := by kernel_rfl
  t2 := Tryz.underlying2
  a2 := Tryz.isAgg2
  z2 := Tryz.sizeOf2
  v2 := Tryz.zeroValue2
  i2 := by kernel_rfl
  t3 := Tryz.underlying3
  a3 := Tryz.isAgg3
  z3 := Tryz.sizeOf3
  v3 := Tryz.zeroValue3
  i3 := by kernel_rfl
  t4 := Tryz.underlying4
  a4 := Tryz.isAgg4
  z4 := Tryz.sizeOf4
  v4 := Tryz.zeroValue4
  i4 := by kernel_rfl
  t5 := Tryz.underlying5
  a5 := Tryz.isAgg5
  z5 := Tryz.sizeOf5
  v5 := Tryz.zeroValue5
  i5 := by kernel_rfl
  t9 := Tryz.underlying9
  a9 := Tryz.isAgg9
  z9 := Tryz.sizeOf9
  v9 := Tryz.zeroValue9
  i9 := by kernel_rfl
  t20 := Tryz.underlying20
  a20 := Tryz.isAgg20
  z20 := Tryz.sizeOf20
  v20 := Tryz.zeroValue20
  i20 := by kernel_rfl
  t21 := Tryz.underlying21
  a21 := Tryz.isAgg21
  z21 := Tryz.sizeOf21
  v21 := Tryz.zeroValue21
  i21 := by kernel_rfl
  t22 := Tryz.underlying64
  a22 := Tryz.isAgg64
  z22 := Tryz.sizeOf64
  v22 := Tryz.zeroValue64
  i22 := by kernel_rfl
  t24 := Tryz.underlying66
  a24 := Tryz.isAgg66
  z24 := Tryz.sizeOf66
  v24 := Tryz.zeroValue66
  i24 := by kernel_rfl
  t25 := Tryz.underlying67
  a25 := Tryz.isAgg67
  z25 := Tryz.sizeOf67
  v25 := Tryz.zeroValue67
  i25 := by kernel_rfl
  t34 := Tryz.underlying101
  a34 := Tryz.isAgg101
  z34 := Tryz.sizeOf101
  v34 := Tryz.zeroValue101
  i34 := by kernel_rfl
  c34 := by kernel_rfl
  t36 := Tryz.underlying98
  a36 := Tryz.isAgg98
  z36 := Tryz.sizeOf98
  v36 := Tryz.zeroValue98
  i36 := by kernel_rfl
  t37 := Tryz.underlying22
  a37 := Tryz.isAgg22
  z37 := Tryz.sizeOf22
  v37 := Tryz.zeroValue22
  i37 := by kernel_rfl
  t39 := Tryz.underlying104
  a39 := Tryz.isAgg104
  z39 := Tryz.sizeOf104
  v39 := Tryz.zeroValue104
  i39 := by kernel_rfl
  t44 := Tryz.underlying117
  a44 := Tryz.isAgg117
  z44 := Tryz.sizeOf117
  v44 := Tryz.zeroValue117
  i44 := by kernel_rfl
  t47 := Tryz.underlying107
  a47 := Tryz.isAgg107
  z47 := Tryz.sizeOf107
  v47 := Tryz.zeroValue107
  i47 := by kernel_rfl
  t48 := Tryz.underlying133
  a48 := Tryz.isAgg133
  z48 := Tryz.sizeOf133
  v48 := Tryz.zeroValue133
  i48 := by kernel_rfl
  t50 := Tryz.underlying135
  a50 := Tryz.isAgg135
  z50 := Tryz.sizeOf135
  v50 := Tryz.zeroValue135
  i50 := by kernel_rfl
  t52 := Tryz.underlying120
  a52 := Tryz.isAgg120
  z52 := Tryz.sizeOf120
  v52 := Tryz.zeroValue120
  i52 := by kernel_rfl
  t55 := Tryz.underlying123
  a55 := Tryz.isAgg123
  z55 := Tryz.sizeOf123
  v55 := Tryz.zeroValue123
  i55 := by kernel_rfl
  t59 := Tryz.underlying137
  a59 := Tryz.isAgg137
  z59 := Tryz.sizeOf137
  v59 := Tryz.zeroValue137
  i59 := by kernel_rfl
  t60 := Tryz.underlying138
  a60 := Tryz.isAgg138
  z60 := Tryz.sizeOf138
  v60 := Tryz.zeroValue138
  i60 := by kernel_rfl
  t61 := Tryz.underlying139
  a61 := Tryz.isAgg139
  z61 := Tryz.sizeOf139
  t65 := Tryz.underlying152
  a65 := Tryz.isAgg152
  z65 := Tryz.sizeOf152
  v65 := Tryz.zeroValue152
  i65 := by kernel_rfl
  t66 := Tryz.underlying153
  a66 := Tryz.isAgg153
  z66 := Tryz.sizeOf153
  v66 := Tryz.zeroValue153
  i66 := by kernel_rfl
  t67 := Tryz.underlying94
  a67 := Tryz.isAgg94
  z67 := Tryz.sizeOf94
  v67 := Tryz.zeroValue94
  i67 := by kernel_rfl
  g0 := by kernel_rfl
  m0 := by kernel_rfl
  g1 := by kernel_rfl
  m1 := by kernel_rfl
  g2 := by kernel_rfl
  m2 := by kernel_rfl
  g3 := by kernel_rfl
  m3 := by kernel_rfl
  g4 := by kernel_rfl
  m4 := by kernel_rfl }
open Go.RowKit in
/-- strconv.ParseUint(s, 10, 8), AT EVERY STRING THAT SPELLS A uint8 ('Lib.parseUintB 8 s.data.toList = .ok u'): u, AND NO ERROR. (LAID: no walk: one application.) -/
theorem Tryz.strconv_ParseUint_10_at8_ok (s : ByteArray) (hmax : s.size ≤ 9223372036854775806) (u : Nat) (h : Lib.parseUintB 8 s.data.toList = .ok u) (w : World) :
    Calls Tryz.prog 40 #[.string s, .int .i64 10, .int .i64 8] w fun e w' => e = .returned (.tuple #[.int .u64 u, .nilIface]) ∧ (w' = w ∨ w' = Lib.bytesWorld w 5 s) := Any.strconv_ParseUint_10_at8_ok Tryz.laysPu14 s hmax u h w
open Go.RowKit in
/-- strconv.ParseUint(s, 10, 8), AT EVERY STRING THAT IS NO ROW OF DECIMAL DIGITS (a sign is a fault): 0, AND AN ERROR THAT IS NOT nil: a *NumError in a new block N: {Func: "ParseUint", Num: s's bytes, Err: what the variable ErrSyntax holds}. Of what was there nothing has turned. (LAID: no walk: one application.) -/
theorem Tryz.strconv_ParseUint_10_at8_syntax (s : ByteArray) (hlim : s.size ≤ 281474976710656) (h : Lib.parseUintB 8 s.data.toList = Lib.parseUintB 8 []) (ev : Value) (w : World) (hv : w.cell? ⟨0, 0, none⟩ = some ev) (hev : ev = .nilIface ∨ ∃ te pe, ev = .iface te pe) :
    Calls Tryz.prog 40 #[.string s, .int .i64 10, .int .i64 8] w fun e w' => ∃ N, e = .returned (.tuple #[.int .u64 0, .iface 104 (.pointer (some ⟨N, 0, none⟩))]) ∧ w.heap.size ≤ N ∧ w'.heap[N]? = some (.cells #[.string ⟨#[80, 97, 114, 115, 101, 85, 105, 110, 116]⟩, .string s, ev] 117 (0, 0)) ∧ Below w.heap.size w w' := Any.strconv_ParseUint_10_at8_syntax Tryz.laysPu14 s hlim h ev w hv hev
open Go.RowKit in
/-- strconv.ParseUint(s, 10, 8), AT EVERY NUMERAL THAT NO uint8 HOLDS: THE GREATEST uint8, AND AN ERROR THAT IS NOT nil: a *NumError in a new block N: {Func: "ParseUint", Num: s's bytes, Err: what the variable ErrRange holds}. Of what was there nothing has turned. (LAID: no walk: one application.) -/
theorem Tryz.strconv_ParseUint_10_at8_range (s : ByteArray) (hlim : s.size ≤ 281474976710656) (h : Lib.parseUintB 8 s.data.toList = .range) (ev : Value) (w : World) (hv : w.cell? ⟨1, 0, none⟩ = some ev) (hev : ev = .nilIface ∨ ∃ te pe, ev = .iface te pe) :
    Calls Tryz.prog 40 #[.string s, .int .i64 10, .int .i64 8] w fun e w' => ∃ N, e = .returned (.tuple #[.int .u64 255, .iface 104 (.pointer (some ⟨N, 0, none⟩))]) ∧ w.heap.size ≤ N ∧ w'.heap[N]? = some (.cells #[.string ⟨#[80, 97, 114, 115, 101, 85, 105, 110, 116]⟩, .string s, ev] 117 (0, 0)) ∧ Below w.heap.size w w' := Any.strconv_ParseUint_10_at8_range Tryz.laysPu14 s hlim h ev w hv hev
def Tryz.lays146_ren : Go.Shelf.Ren := ⟨fun | 146 => 39 | 221 => 60 | 268 => 73 | 138 => 74 | 143 => 75 | 195 => 89 | 197 => 90 | 218 => 91 | 219 => 92 | 260 => 106 | 217 => 107 | 225 => 108 | 224 => 109 | 267 => 110 | 266 => 120 | 314 => 121 | n => n, fun | 9 => 9 | 31 => 62 | 3 => 3 | 4 => 4 | 0 => 0 | 105 => 112 | 21 => 21 | 5 => 5 | 46 => 98 | 119 => 146 | 139 => 149 | 138 => 148 | 146 => 142 | 51 => 138 | n => n, fun | 1 => 2 | 3 => 4 | 4 => 5 | n => n⟩
theorem Tryz.lays146 : Go.Proofs.Lays.n146 Tryz.prog Tryz.lays146_ren := {
  mixed := by kernel_rfl
  f138 := Tryz.func74.trans (congrArg some (by kernel_rfl))
  f143 := Tryz.func75.trans (congrArg some (by kernel_rfl))
  f146 := Tryz.func39.trans (congrArg some (by kernel_rfl))
  f195 := Tryz.func89.trans (congrArg some (by kernel_rfl))
  f197 := Tryz.func90.trans (congrArg some (by kernel_rfl))
  f217 := Tryz.func107.trans (congrArg some (by kernel_rfl))
  f218 := Tryz.func91.trans (congrArg some (by kernel_rfl))
  f219 := Tryz.func92.trans (congrArg some (by kernel_rfl))
  f221 := Tryz.func60.trans (congrArg some (by kernel_rfl))
  f224 := Tryz.func109.trans (congrArg some (by kernel_rfl))
  f225 := Tryz.func108.trans (congrArg some (by kernel_rfl))
  f260 := Tryz.func106.trans (congrArg some (by kernel_rfl))
  f266 := Tryz.func120.trans (congrArg some (by kernel_rfl))
  f267 := Tryz.func110.trans (congrArg some (by kernel_rfl))
  f268 := Tryz.func73.trans (congrArg some (by kernel_rfl))
  f314 := Tryz.func121.trans (congrArg some (by kernel_rfl))
  t0 := Tryz.underlying0
  a0 := Tryz.isAgg0
  z0 := Tryz.sizeOf0
  v0 := Tryz.zeroValue0
  t3 := Tryz.underlying3
  a3 := Tryz.isAgg3
  z3 := Tryz.sizeOf3
  v3 := Tryz.zeroValue3
  t4 := Tryz.underlying4
  a4 := Tryz.isAgg4
  z4 := Tryz.sizeOf4
  v4 := Tryz.zeroValue4
  t5 := Tryz.underlying5
  a5 := Tryz.isAgg5
  z5 := Tryz.sizeOf5
  v5 := Tryz.zeroValue5
  t9 := Tryz.underlying9
  a9 := Tryz.isAgg9
  z9 := Tryz.sizeOf9
  v9 := Tryz.zeroValue9
  t21 := Tryz.underlying21
  a21 := Tryz.isAgg21
  z21 := Tryz.sizeOf21
  v21 := Tryz.zeroValue21
  t31 := Tryz.underlying62
  a31 := Tryz.isAgg62
  z31 := Tryz.sizeOf62
  v31 := Tryz.zeroValue62
  t46 := Tryz.underlying98
  a46 := Tryz.isAgg98
  z46 := Tryz.sizeOf98
  v46 := Tryz.zeroValue98
  t51 := Tryz.underlying138
  a51 := Tryz.isAgg138
  z51 := Tryz.sizeOf138
  v51 := Tryz.zeroValue138
  t105 := Tryz.underlying112
  a105 := Tryz.isAgg112
  z105 := Tryz.sizeOf112
  v105 := Tryz.zeroValue112
  t119 := Tryz.underlying146
  a119 := Tryz.isAgg146
  z119 := Tryz.sizeOf146
  t138 := Tryz.underlying148
  a138 := Tryz.isAgg148
  z138 := Tryz.sizeOf148
  v138 := Tryz.zeroValue148
  t139 := Tryz.underlying149
  a139 := Tryz.isAgg149
  z139 := Tryz.sizeOf149
  v139 := Tryz.zeroValue149
  t146 := Tryz.underlying142
  a146 := Tryz.isAgg142
  z146 := Tryz.sizeOf142
  v146 := Tryz.zeroValue142
  g1 := by kernel_rfl
  g3 := by kernel_rfl
  g4 := by kernel_rfl }
open Go.RowKit Go.Lib in
/-- strings.Split. (LAID: no walk: one application.) -/
theorem Tryz.strings_Split (s sep : ByteArray) (m : Int) (w : World) (hs : s.size < 4294967281) (hm : w.cell? ⟨2, 0, none⟩ = some (.int .i64 m)) (h1 : 1 ≤ sep.size) :
    Calls Tryz.prog 39 #[.string s, .string sep] w fun e w' =>
      e = .returned (.slice (some ⟨w.heap.size, 0, none⟩) (Lib.countB s sep + 1) (Lib.countB s sep + 1)) ∧ w' = w.alloc (.cells ((Lib.splitB sep 0 (Lib.countB s sep) s).map Value.string).toArray 9) := Any.strings_Split Tryz.lays146 (by kernel_rfl) s sep m w hs hm h1
def Tryz.lays105_ren : Go.Shelf.Ren := ⟨fun | 105 => 85 | 212 => 102 | 99 => 103 | 165 => 65 | 166 => 66 | 170 => 104 | 169 => 67 | 263 => 117 | 264 => 118 | 206 => 119 | 240 => 83 | 241 => 84 | 276 => 100 | 277 => 101 | n => n, fun | 9 => 9 | 3 => 3 | 4 => 4 | 20 => 20 | 0 => 0 | 46 => 98 | 109 => 128 | 5 => 5 | 72 => 90 | 76 => 92 | 51 => 138 | 146 => 142 | 53 => 64 | 148 => 144 | 70 => 88 | 37 => 22 | 75 => 66 | 127 => 107 | 164 => 125 | 80 => 94 | n => n, fun | n => n⟩
theorem Tryz.lays105 : Go.Proofs.Lays.n105 Tryz.prog Tryz.lays105_ren := {
  mixed := by kernel_rfl
  f99 := Tryz.func103.trans (congrArg some (by kernel_rfl))
  f105 := Tryz.func85.trans (congrArg some (by kernel_rfl))
  f165 := Tryz.func65.trans (congrArg some (by kernel_rfl))
  f166 := Tryz.func66.trans (congrArg some (by kernel_rfl))
  f169 := Tryz.func67.trans (congrArg some (by kernel_rfl))
  f170 := Tryz.func104.trans (congrArg some (by kernel_rfl))
  f206 := Tryz.func119.trans (congrArg some (by kernel_rfl))
  f212 := Tryz.func102.trans (congrArg some (by kernel_rfl))
  f240 := Tryz.func83.trans (congrArg some (by kernel_rfl))
  f241 := Tryz.func84.trans (congrArg some (by kernel_rfl))
  f263 := Tryz.func117.trans (congrArg some (by kernel_rfl))
  f264 := Tryz.func118.trans (congrArg some (by kernel_rfl))
  f276 := Tryz.func100.trans (congrArg some (by kernel_rfl))
  f277 := Tryz.func101.trans (congrArg some (by kernel_rfl))
  t0 := Tryz.underlying0
  a0 := Tryz.isAgg0
  z0 := Tryz.sizeOf0
  v0 := Tryz.zeroValue0
  t3 := Tryz.underlying3
  a3 := Tryz.isAgg3
  z3 := Tryz.sizeOf3
  v3 := Tryz.zeroValue3
  t4 := Tryz.underlying4
  a4 := Tryz.isAgg4
  z4 := Tryz.sizeOf4
  v4 := Tryz.zeroValue4
  t5 := Tryz.underlying5
  a5 := Tryz.isAgg5
  z5 := Tryz.sizeOf5
  v5 := Tryz.zeroValue5
  t9 := Tryz.underlying9
  a9 := Tryz.isAgg9
  z9 := Tryz.sizeOf9
  v9 := Tryz.zeroValue9
  t20 := Tryz.underlying20
  a20 := Tryz.isAgg20
  z20 := Tryz.sizeOf20
  v20 := Tryz.zeroValue20
  t37 := Tryz.underlying22
  a37 := Tryz.isAgg22
  z37 := Tryz.sizeOf22
  v37 := Tryz.zeroValue22
  t46 := Tryz.underlying98
  a46 := Tryz.isAgg98
  z46 := Tryz.sizeOf98
  v46 := Tryz.zeroValue98
  t51 := Tryz.underlying138
  a51 := Tryz.isAgg138
  z51 := Tryz.sizeOf138
  v51 := Tryz.zeroValue138
  t53 := Tryz.underlying64
  a53 := Tryz.isAgg64
  z53 := Tryz.sizeOf64
  v53 := Tryz.zeroValue64
  t70 := Tryz.underlying88
  a70 := Tryz.isAgg88
  z70 := Tryz.sizeOf88
  v70 := Tryz.zeroValue88
  t72 := Tryz.underlying90
  a72 := Tryz.isAgg90
  z72 := Tryz.sizeOf90
  v72 := Tryz.zeroValue90
  t75 := Tryz.underlying66
  a75 := Tryz.isAgg66
  z75 := Tryz.sizeOf66
  v75 := Tryz.zeroValue66
  t76 := Tryz.underlying92
  a76 := Tryz.isAgg92
  z76 := Tryz.sizeOf92
  v76 := Tryz.zeroValue92
  t109 := Tryz.underlying128
  a109 := Tryz.isAgg128
  z109 := Tryz.sizeOf128
  v109 := Tryz.zeroValue128
  t127 := Tryz.underlying107
  a127 := Tryz.isAgg107
  z127 := Tryz.sizeOf107
  v127 := Tryz.zeroValue107
  t146 := Tryz.underlying142
  a146 := Tryz.isAgg142
  z146 := Tryz.sizeOf142
  v146 := Tryz.zeroValue142
  t148 := Tryz.underlying144
  a148 := Tryz.isAgg144
  z148 := Tryz.sizeOf144
  v148 := Tryz.zeroValue144
  t164 := Tryz.underlying125
  a164 := Tryz.isAgg125
  z164 := Tryz.sizeOf125
  v164 := Tryz.zeroValue125 }
open Go.RowKit Go.Lib in
theorem Tryz.strings_Repeat_zero (s : ByteArray) (w : World) :
    Calls Tryz.prog 85 #[.string s, .int .i64 0] w fun e w' => e = .returned (.string ⟨#[]⟩) ∧ w' = w := Any.strings_Repeat_zero Tryz.lays105 s w
open Go.RowKit Go.Lib in
theorem Tryz.strings_Repeat_one (s : ByteArray) (w : World) :
    Calls Tryz.prog 85 #[.string s, .int .i64 1] w fun e w' => e = .returned (.string s) ∧ w' = w := Any.strings_Repeat_one Tryz.lays105 s w
end Go.Proofs

/- What these functions of the program hand back, each proved by walking its operations. -/
set_option linter.unusedVariables false
set_option linter.unusedSimpArgs false
set_option maxRecDepth 4000
namespace Go.Proofs.YtidnicdeogdedaaGreatDoor
open Go Go.Sx Go.RowKit Go.W Go.Proofs
attribute [local irreducible] Ex ExL ExD Op1 Free RetQ MutQ Reads CellO SegO LoadsAs
theorem e_39 : Enters Tryz.prog 39 := Enters.of Tryz.func39 rfl
theorem c_Split (t : List UInt8) (c : UInt8) (hl : t.length ≤ 1048576) : Ret Tryz.prog 39 [sv t, sv [c]] (fun w => RdO 2 0 1 w) (fun x : Nat => .slice (some ⟨x, 0, none⟩) (splitA c [] t).length (splitA c [] t).length) (fun x => [.row (.slice (some ⟨x, 0, none⟩) (splitA c [] t).length (splitA c [] t).length) 9 1 (splitA c [] t).length ((splitA c [] t).flatMap eSt)]) (fun _ => True) := by
  refine ⟨e_39, fun w hr => ?_⟩
  obtain ⟨m, hm⟩ := hr.max
  have hz : (mkB t).size = t.length := rfl
  refine (Go.Proofs.Tryz.strings_Split (mkB t) (mkB [c]) m w (by omega) hm (by show 1 ≤ 1; decide)).mono ?_
  rintro e w' ⟨rfl, rfl⟩
  obtain ⟨h1, h2⟩ := split_row (T := 9) (w := w) c t (by omega)
  exact ⟨w.heap.size, trivial, congrArg _ h1, below_alloc _ _, by simpa using h2, by simp⟩
end Go.Proofs.YtidnicdeogdedaaGreatDoor

/- What these functions of the program hand back, each proved by walking its operations. -/
set_option linter.unusedVariables false
set_option linter.unusedSimpArgs false
set_option maxRecDepth 4000
namespace Go.Proofs.YtidnicdeogdedaaGreatDoor
open Go Go.Sx Go.RowKit Go.W Go.Proofs
attribute [local irreducible] Ex ExL ExD Op1 Free RetQ MutQ Reads CellO SegO LoadsAs
theorem e_40 : Enters Tryz.prog 40 := Enters.of Tryz.func40 rfl
theorem c_ParseUint (t : List UInt8) (hl : t.length ≤ 1048576) : Ret Tryz.prog 40 [sv t, .int .i64 10, .int .i64 7] (fun w => RdO 2 0 1 w) (fun x : Int × Bool × TypeId × Value => .tuple #[.int .u64 x.1, errV x.2.1 x.2.2.1 x.2.2.2]) (fun _ => []) (fun x => PUint t x.1 x.2.1) := by
  refine ⟨e_40, fun w hr => ?_⟩
  have hz : (mkB t).size = t.length := rfl
  cases h : Lib.parseUintB 7 t with
  | ok u =>
    refine (Go.U7.u7_ok Go.Proofs.Tryz.laysPu14 (mkB t) (by omega) u h w).mono ?_
    rintro e w' ⟨rfl, hw⟩
    refine ⟨((u : Int), true, 0, .nilIface), puint_ok h, rfl, ?_, by simp, List.Pairwise.nil⟩
    rcases hw with rfl | rfl
    · exact Below.refl _ _
    · exact Lib.bytesWorld_below _ _ _
  | range =>
    obtain ⟨ev, hv, hev⟩ := hr.rng
    refine (Go.U7.u7_rng Go.Proofs.Tryz.laysPu14 (mkB t) (by omega) h ev w hv hev).mono ?_
    rintro e w' ⟨N, rfl, _, _, hb⟩
    exact ⟨(127, false, _, _), puint_no ⟨by simp, by simp⟩ (fun z e => by rw [h] at e; cases e), rfl, hb, by simp, List.Pairwise.nil⟩
  | _ =>
    obtain ⟨ev, hv, hev⟩ := hr.syn
    refine (Go.U7.u7_syn Go.Proofs.Tryz.laysPu14 (mkB t) (by omega) h ev w hv hev).mono ?_
    rintro e w' ⟨N, rfl, _, _, hb⟩
    exact ⟨(0, false, _, _), puint_no ⟨by simp, by simp⟩ (fun z e => by rw [h] at e; cases e), rfl, hb, by simp, List.Pairwise.nil⟩
end Go.Proofs.YtidnicdeogdedaaGreatDoor

/- What these functions of the program hand back, each proved by walking its operations. -/
set_option linter.unusedVariables false
set_option linter.unusedSimpArgs false
set_option maxRecDepth 4000
namespace Go.Proofs.YtidnicdeogdedaaGreatDoor
open Go Go.Sx Go.RowKit Go.W Go.Proofs
attribute [local irreducible] Ex ExL ExD Op1 Free RetQ MutQ Reads CellO SegO LoadsAs
theorem e_64 : Enters Tryz.prog 64 := Enters.of Tryz.func64 rfl
theorem c_FormatInt (n : Int) (hn : -9223372036854775808 ≤ n ∧ n ≤ 9223372036854775807) : Ret Tryz.prog 64 [.int .i64 n, .int .i64 10] (fun w => TabO Tryz.prog w) (fun _ : Unit => sv (Lib.itoa n)) (fun _ => []) (fun _ => True) :=
  ⟨e_64, fun w ht => (Go.Proofs.Tryz.strconv_FormatInt_10 n hn.1 hn.2 w ht).mono (by rintro e w' ⟨rfl, q, os, rfl⟩; exact ⟨(), trivial, rfl, below_grw w q os, by simp, List.Pairwise.nil⟩)⟩
theorem e_42 : Enters Tryz.prog 42 := Enters.of Tryz.func42 rfl
theorem c_decimal (n : Int) (hn : -9223372036854775808 ≤ n ∧ n ≤ 9223372036854775807) : Ret Tryz.prog 42 [.int .i64 n] (fun w => TabO Tryz.prog w) (fun x : Unit => sv (Lib.itoa n)) (fun x => []) (fun x => True) := by
  refine Ret.of e_42 Tryz.func42 rfl Tryz.ntmps42 rfl rfl (fun w hpre => ?_)
  have htab := hpre
  refine Ex.regSeq (ExL.pures 1 rfl ?_)
  refine ExL.nil ?_
  refine Ex.regSeq (ExL.pures 1 rfl ?_)
  refine ExL.op rfl (op_ret rfl rfl rfl (c_FormatInt n (by omega)) (fun w hw => TabO.keep htab hw) rfl rfl (fun x1 hx1 => ?_))
  refine ExL.pures 1 rfl ?_
  refine ExL.nil ?_
  refine Ex.ret ?_
  refine RetQ.mk () rfl (.tmp rfl .nil) (rfl) [] (rfl) rfl (trivial)
end Go.Proofs.YtidnicdeogdedaaGreatDoor

/- What these functions of the program hand back, each proved by walking its operations. -/
set_option linter.unusedVariables false
set_option linter.unusedSimpArgs false
set_option maxRecDepth 4000
namespace Go.Proofs.YtidnicdeogdedaaGreatDoor
open Go Go.Sx Go.RowKit Go.W Go.Proofs
attribute [local irreducible] Ex ExL ExD Op1 Free RetQ MutQ Reads CellO SegO LoadsAs
theorem c_back1X (s : List Int) (As : Option Addr) (cs : Nat) (hls : s.length ≤ maxLen) (b base : Nat) (w0 : World) (hs : RdB base w0 As (s.flatMap (eI .u8))) : IterX Tryz.prog 63 [.pointer (some ⟨b, 0, none⟩)] base w0 (.blk b [.slice As s.length cs] 24) s.length (fun k => [.int .i64 ((s.length - 1 - k : Nat) : Int), .int .u8 (s.getD (s.length - 1 - k) 0)]) := by
  refine IterX.of e_63 Tryz.func63 rfl Tryz.ntmps63 rfl rfl (fun w1 l Sf m0 hW hY h0 => ?_)
  have hs := hs.keep hW
  have hm0 : maxLen = 9223372036854775807 := rfl
  refine Ex.regSeq (ExL.pures 0 rfl ?_)
  refine ExL.free (fr_load rfl rfl rfl rfl (CellO.blk (i := 0) rfl rfl)) rfl rfl rfl ?_
  refine ExL.pures 1 rfl ?_
  refine ExL.free (fr_sub64 rfl rfl rfl (by omega)) rfl rfl rfl ?_
  refine ExL.pures 1 rfl ?_
  refine ExL.nil ?_
  refine Ex.block ?_
  refine Ex.loopK (X := Nat × List Ent) (fun x => [(3, .int .i64 ((s.length : Int) - 1 - x.1))]) (fun x => .blk b [.slice As s.length cs] 24 :: x.2) (fun x => x.1 ≤ s.length ∧ Sf x.1 x.2) (fun x => s.length - x.1) (0, m0) [(0, _), (1, _)] [] 1 [0] ⟨agI (by simp), trivial⟩ ⟨rfl, rfl, trivial⟩ pick_box rfl ⟨Nat.zero_le _, h0⟩ (fun x hI => ?_)
  obtain ⟨hI, hS⟩ : x.1 ≤ s.length ∧ Sf x.1 x.2 := hI
  refine Ex.seq ?_
  refine Ex.regSeq (ExL.pures 1 rfl ?_)
  refine ExL.geq rfl rfl rfl rfl rfl rfl (fun h1 => ?_) (fun h1 => ?_)
  · have hk : x.1 < s.length := by omega
    have hj : (s.length : Int) - 1 - x.1 = ((s.length - 1 - x.1 : Nat) : Int) := by omega
    rw [hj]
    refine ExL.nil ?_
    refine Ex.cond_t rfl ?_
    refine Ex.skip ?_
    refine Ex.seq ?_
    refine Ex.block ?_
    refine Ex.regSeq (ExL.pures 2 rfl ?_)
    refine ExL.free (fr_load rfl rfl rfl rfl (CellO.blk (i := 0) rfl rfl)) rfl rfl rfl ?_
    refine ExL.pures 1 rfl ?_
    refine ExL.free (fr_indexAddrF (Reads.old hs) (eI_len .u8) rfl rfl rfl rfl rfl rfl (by omega)) rfl rfl rfl ?_
    refine ExL.free (fr_load rfl rfl rfl rfl (cellN (Reads.old hs) (eI_len .u8) 0 0 rfl (by omega) rfl)) rfl rfl rfl ?_
    refine ExL.yieldX rfl rfl rfl rfl rfl rfl (fun w hw => hY x.1 w x.2 hk hS (by simpa using hw)) ?_
    rintro _ ⟨mk, hS2, rfl⟩
    refine ExL.pures 1 rfl ?_
    refine ExL.nil ?_
    refine Ex.cond_f rfl ?_
    refine Ex.skip ?_
    refine Ex.region (ExL.pures 1 rfl ?_)
    refine ExL.free (fr_sub64 rfl rfl rfl (by omega)) rfl rfl rfl ?_
    refine ExL.pures 1 rfl ?_
    refine ExL.nil ?_
    exact Hand.mk (x.1 + 1, mk) 1 [0] ⟨agI (by show ((s.length - 1 - x.1 : Nat) : Int) - 1 = (s.length : Int) - 1 - ((x.1 + 1 : Nat) : Int); omega), trivial⟩ ⟨rfl, rfl, trivial⟩ pick_box rfl ⟨by dsimp only; omega, hS2⟩ (by dsimp only; omega)
  · refine ExL.nil ?_
    refine Ex.cond_f rfl ?_
    refine Ex.exit ?_
    have hk : x.1 = s.length := by omega
    exact ⟨rfl, x.2, hk ▸ hS, by simp⟩
theorem e_43 : Enters Tryz.prog 43 := Enters.of Tryz.func43 rfl
theorem c_Join (xs : List (List UInt8)) (n : Nat) (hn : xs.length = n) (A : Option Addr) (c : Nat) (sep : List UInt8) (hc : n ≤ c) (hl : xs.length ≤ 140737488355328) (hj : (Lib.join xs sep).length ≤ 140737488355328) : Ret Tryz.prog 43 [.slice A n c, sv sep] (fun w => Rd w A (xs.flatMap eSt)) (fun _ : Unit => sv (Lib.join xs sep)) (fun _ => []) (fun _ => True) := by
  subst hn
  refine ⟨e_43, fun w hr => ?_⟩
  rcases Nat.eq_zero_or_pos xs.length with h | h
  · obtain rfl := List.eq_nil_of_length_eq_zero h
    exact (Go.Proofs.Tryz.strings_Join_none A c (mkB sep) w).mono (by rintro e w' ⟨rfl, rfl⟩; exact ⟨(), trivial, rfl, Below.refl _ _, by simp, List.Pairwise.nil⟩)
  · obtain ⟨bk, o, rfl, hb, hcs⟩ := join_pre hr h
    have h1 := Go.Proofs.Tryz.strings_Join bk o c (xs.map mkB) (mkB sep) w hcs hb (by simpa using hl) (by simpa using hc) (by rw [mkB_map]; exact hj)
    rw [mkB_map, List.length_map] at h1
    exact h1.mono (by rintro e w' ⟨rfl, hbl⟩; exact ⟨(), trivial, rfl, hbl, by simp, List.Pairwise.nil⟩)
theorem e_85 : Enters Tryz.prog 85 := Enters.of Tryz.func85 rfl
theorem c_Repeat (l : List UInt8) (c : Int) (hc : c = 0 ∨ c = 1) : Ret Tryz.prog 85 [sv l, .int .i64 c] (fun _ => True) (fun _ : Unit => sv (if c = 1 then l else [])) (fun _ => []) (fun _ => True) := by
  refine ⟨e_85, fun w _ => ?_⟩
  rcases hc with rfl | rfl
  · exact (Go.Proofs.Tryz.strings_Repeat_zero (mkB l) w).mono (by rintro e w' ⟨rfl, rfl⟩; exact ⟨(), trivial, rfl, Below.refl _ _, by simp, List.Pairwise.nil⟩)
  · exact (Go.Proofs.Tryz.strings_Repeat_one (mkB l) w).mono (by rintro e w' ⟨rfl, rfl⟩; exact ⟨(), trivial, rfl, Below.refl _ _, by simp, List.Pairwise.nil⟩)
theorem e_68 : Enters Tryz.prog 68 := Enters.of Tryz.func68 rfl
theorem c_padded (n d : Int) (hn : 0 ≤ n ∧ n ≤ 1000) (hd : 0 ≤ d ∧ d ≤ ((Lib.itoa n).length : Int) + 1) : Ret Tryz.prog 68 [.int .i64 n, .int .i64 d] (fun w => TabO Tryz.prog w) (fun x : Unit => sv (padT n d)) (fun x => []) (fun x => True) := by
  refine Ret.of e_68 Tryz.func68 rfl Tryz.ntmps68 rfl rfl (fun w hpre => ?_)
  have htab := hpre
  have hil := itoa_le (n := n) (by omega)
  refine Ex.regSeq (ExL.pures 1 rfl ?_)
  refine ExL.nil ?_
  refine Ex.regSeq (ExL.pures 1 rfl ?_)
  refine ExL.op rfl (op_ret rfl rfl rfl (c_decimal n (by omega)) (fun w hw => TabO.keep htab hw) rfl rfl (fun x1 hx1 => ?_))
  refine ExL.pures 1 rfl ?_
  refine ExL.nil ?_
  have hif : (if max 0 (d - ((Lib.itoa n).length : Int)) = 1 then [48] else ([] : List UInt8)).length ≤ 1 := by split <;> simp
  refine Ex.regSeq (ExL.pures 2 rfl ?_)
  refine ExL.free (fr_lenS (l := Lib.itoa n) rfl rfl rfl) rfl rfl rfl ?_
  refine ExL.free (by first | exact fr_sub64 rfl rfl rfl (by omega) | exact fr_sub rfl rfl rfl) rfl rfl rfl ?_
  refine ExL.free (fr_max rfl rfl rfl) rfl rfl rfl ?_
  refine ExL.op rfl (op_ret rfl rfl rfl (c_Repeat [48] (max 0 (d - ((Lib.itoa n).length : Int))) (by omega)) (fun _ _ => trivial) rfl rfl (fun x2 hx2 => ?_))
  refine ExL.pures 1 rfl ?_
  refine ExL.free (fr_addS (l := (if (max 0 (d - ((Lib.itoa n).length : Int))) = 1 then [48] else [])) (r := Lib.itoa n) rfl rfl rfl (by first | omega | (simp only [List.length_append, List.length_cons, List.length_nil]; omega))) rfl rfl rfl ?_
  refine ExL.pures 1 rfl ?_
  refine ExL.nil ?_
  refine Ex.ret ?_
  refine RetQ.mk () rfl (.tmp rfl .nil) (rfl) [] (rfl) rfl (trivial)
end Go.Proofs.YtidnicdeogdedaaGreatDoor

/- What these functions of the program hand back, each proved by walking its operations. -/
set_option linter.unusedVariables false
set_option linter.unusedSimpArgs false
set_option maxRecDepth 4000
namespace Go.Proofs.YtidnicdeogdedaaGreatDoor
open Go Go.Sx Go.RowKit Go.W Go.Proofs
attribute [local irreducible] Ex ExL ExD Op1 Free RetQ MutQ Reads CellO SegO LoadsAs
theorem e_44 : Enters Tryz.prog 44 := Enters.of Tryz.func44 rfl
theorem c_text (s : List Int) (hv : validStack s = true) (As : Option Addr) (cs : Nat) (a : Dig) (ha : Nums 255 a.l) (hd : validDig s a.l = true) : Ret Tryz.prog 44 [.slice As s.length cs, .agg (encD a).toArray] (fun w => Rd w As (s.flatMap (eI .u8)) ∧ TabO Tryz.prog w) (fun x : Unit => sv (digT s a.l)) (fun x => []) (fun x => True) := by
  refine Ret.of e_44 Tryz.func44 rfl Tryz.ntmps44 rfl rfl (fun w hpre => ?_)
  have htab := hpre.2.base
  have hpre := hpre.1
  have hs := hpre.base
  have hS := stk hv
  have h8 := hS.len8
  have hD := digOk h8 ha hd
  have hn : s.length ≤ a.l.length := by rw [dig_len]; omega
  have hm0 : maxLen = 9223372036854775807 := rfl
  refine Ex.regSeq (ExL.pures 0 rfl ?_)
  refine ExL.op rfl (op_box rfl rfl rfl rfl rfl (fun b1 => ?_))
  refine ExL.pures 1 rfl ?_
  refine ExL.nil ?_
  refine Ex.regSeq (ExL.pures 0 rfl ?_)
  refine ExL.op rfl (op_buildSlice (sz := 1) rfl rfl rfl rfl rfl rfl rfl rfl (by decide) rfl rfl rfl (fun r2 => ?_))
  refine ExL.op rfl (op_alloc rfl rfl rfl rfl rfl (fun b3 => ?_))
  refine ExL.op rfl (op_storeC (i := 0) rfl rfl rfl rfl rfl rfl rfl rfl rfl rfl ?_)
  refine ExL.nil ?_
  refine ExT.seq ?_
  refine ExT.reg (ExL.pures 1 rfl ?_)
  refine ExL.op rfl (op_ret rfl rfl rfl (c_Back s _ _) (fun _ _ => trivial) rfl rfl (fun x4 hx4 => ?_))
  refine ExL.nil ?_
  refine Ex.rangeKX (X := Option Addr × Nat) (N := s.length) (encs := fun k => [.int .i64 ((s.length - 1 - k : Nat) : Int), .int .u8 (s.getD (s.length - 1 - k) 0)]) (fun k => [(6, .int .i64 ((s.length - 1 - k : Nat) : Int)), (7, .int .u8 (s.getD (s.length - 1 - k) 0))]) (fun k q => [.blk b3 [.slice q.1 k q.2] 62, .row (.slice q.1 k q.2) 9 1 k ((partsF (dpart s a.l) k).flatMap eSt)]) (fun k q => True) ((some ⟨r2, 0, none⟩), 0) [(3, _), (5, _)] [_] 4 [0, 1, 2, 3] rfl (c_back1X s As cs (by have := hS.len8; omega) _ _ _ hs) (fun _ => rfl) rfl rfl rfl (rfl) rfl (trivial) ⟨rfl, rfl, trivial⟩ (fun l k W q hk hI hW => ?_) (fun l k W q hk hI hW => ?_) (fun D W q hI hW => ?_)
  · have hs := hs.keep hW
    have htab := htab.keep hW
    refine Ex.regSeq (ExL.pures 1 rfl ?_)
    refine ExL.nil ?_
    refine Ex.region (ExL.pures 1 rfl ?_)
    refine ExL.nil ?_
    exact ⟨rfl, ⟨rfl, rfl, rfl, rfl, trivial⟩, rfl⟩
  · have hs := hs.keep hW
    have htab := htab.keep hW
    obtain ⟨j, hj⟩ : ∃ j : Nat, s.length - 1 - k = j := ⟨_, rfl⟩
    have hjs : j < s.length := by omega
    rw [hj]
    have hdj := hD j hjs
    have hbj := hS.bases j hjs
    obtain ⟨hpd, hpe⟩ := pad_dg hbj hdj
    have hdp : padT (a.l.getD j 0) ((Lib.itoa (s.getD j 0 - 1)).length : Int) = dpart s a.l k := by unfold dpart; rw [hj]; exact hpe
    have hil := itoa_le (n := s.getD j 0 - 1) (by omega)
    refine Ex.block ?_
    refine Ex.drawI [0, 1, 3] rfl rfl ?_
    refine ExD.take (i := 0) rfl (by kernel_rfl) (fr_load rfl rfl rfl rfl (CellO.blk (i := 1) rfl rfl)) ((List.Sublist.cons_cons _ (List.Sublist.cons_cons _ (List.Sublist.cons _ (List.Sublist.refl _))))) rfl rfl rfl ?_
    refine ExD.take (i := 1) rfl (by kernel_rfl) (pureVal_ok rfl) ((List.Sublist.cons_cons _ (List.Sublist.cons_cons _ (List.Sublist.cons _ (List.Sublist.refl _))))) rfl rfl rfl ?_
    refine ExD.take (i := 2) rfl (by kernel_rfl) (fr_indexAddr_b (sz := 1) rfl rfl rfl rfl rfl (by omega)) ((List.Sublist.cons_cons _ (List.Sublist.cons_cons _ (List.Sublist.cons _ (List.Sublist.refl _))))) rfl rfl rfl ?_
    refine ExD.take (i := 3) rfl (by kernel_rfl) (fr_load rfl rfl rfl rfl (CellO.blk (i := 2) rfl (blkG (eI_len .u8) 0 rfl (by rw [dig_len]; omega) rfl))) ((List.Sublist.cons_cons _ (List.Sublist.cons_cons _ (List.Sublist.cons _ (List.Sublist.refl _))))) rfl rfl rfl ?_
    refine ExD.take (i := 4) rfl (by kernel_rfl) (by first | exact fr_conv64 rfl rfl rfl rfl (by omega) | exact fr_conv rfl rfl rfl rfl) ((List.Sublist.cons_cons _ (List.Sublist.cons_cons _ (List.Sublist.cons _ (List.Sublist.refl _))))) rfl rfl rfl ?_
    refine ExD.take (i := 5) rfl (by kernel_rfl) (pureVal_ok rfl) ((List.Sublist.cons_cons _ (List.Sublist.cons_cons _ (List.Sublist.cons _ (List.Sublist.refl _))))) rfl rfl rfl ?_
    refine ExD.take (i := 6) rfl (by kernel_rfl) (by first | exact fr_conv64 rfl rfl rfl rfl (by omega) | exact fr_conv rfl rfl rfl rfl) ((List.Sublist.cons_cons _ (List.Sublist.cons_cons _ (List.Sublist.cons _ (List.Sublist.refl _))))) rfl rfl rfl ?_
    refine ExD.take (i := 7) rfl (by kernel_rfl) (by first | exact fr_sub64 rfl rfl rfl (by omega) | exact fr_sub rfl rfl rfl) ((List.Sublist.cons_cons _ (List.Sublist.cons_cons _ (List.Sublist.cons _ (List.Sublist.refl _))))) rfl rfl rfl ?_
    refine ExD.op (i := 8) rfl (by kernel_rfl) rfl (op_ret rfl rfl rfl (c_decimal ((s.getD j 0) - 1) (by omega)) (fun w hw => TabB.get htab hw) rfl rfl (fun x5 hx5 => ⟨(List.Sublist.cons_cons _ (List.Sublist.cons_cons _ (List.Sublist.cons _ (List.Sublist.refl _)))), ?_⟩))
    refine ExD.take (i := 9) rfl (by kernel_rfl) (fr_lenS (l := Lib.itoa ((s.getD j 0) - 1)) rfl rfl rfl) ((List.Sublist.cons_cons _ (List.Sublist.cons_cons _ (List.Sublist.cons _ (List.Sublist.refl _))))) rfl rfl rfl ?_
    refine ExD.op (i := 10) rfl (by kernel_rfl) rfl (op_ret rfl rfl rfl (c_padded (a.l.getD j 0) ((Lib.itoa ((s.getD j 0) - 1)).length : Int) (by omega) (by omega)) (fun w hw => TabB.get htab hw) rfl rfl (fun x6 hx6 => ⟨(List.Sublist.cons_cons _ (List.Sublist.cons_cons _ (List.Sublist.cons _ (List.Sublist.refl _)))), ?_⟩))
    refine ExD.op (i := 11) rfl (by kernel_rfl) rfl (op_buildSlice (sz := 1) rfl rfl rfl rfl rfl rfl rfl rfl (by decide) rfl rfl rfl (fun r7 => ⟨(List.Sublist.cons _ (List.Sublist.cons_cons _ (List.Sublist.cons_cons _ (List.Sublist.cons _ (List.Sublist.refl _))))), ?_⟩))
    refine ExD.op (i := 12) rfl (by kernel_rfl) rfl (op_append (sz := 1) (bytes := 16) (i := 3) rfl rfl rfl rfl (Reads.row (i := 0) rfl) rfl (fun e => nomatch e) rfl rfl rfl rfl (by constructor <;> first | omega | (unfold maxLen; omega)) rfl rfl (fun A8 cA8 => ⟨(List.Sublist.cons _ (List.Sublist.cons_cons _ (List.Sublist.cons_cons _ (List.Sublist.cons _ (List.Sublist.refl _))))), ?_⟩))
    refine ExD.last (i := 13) rfl (by kernel_rfl) (by kernel_rfl) rfl (op_storeC (i := 2) rfl rfl rfl rfl rfl rfl rfl rfl rfl rfl ?_)
    refine ExD.done (by kernel_rfl) ?_
    exact ⟨rfl, (A8, cA8), 5, [1, 2, 3, 4], trivial, (pk3R (by rw [partsF_s, List.flatMap_append, ← hdp]; rfl)), rfl⟩
  · have hs := hs.keep hW
    have htab := htab.keep hW
    refine Ex.know (row_cap' (i := 2) rfl) (fun hcap => ?_)
    have hpl := partsF_len (dpart s a.l) s.length
    refine Ex.regSeq (ExL.pures 0 rfl ?_)
    refine ExL.free (fr_load rfl rfl rfl rfl (CellO.blk (i := 1) rfl rfl)) rfl rfl rfl ?_
    refine ExL.op rfl (op_ret rfl rfl rfl (c_Join (partsF (dpart s a.l) s.length) _ hpl _ _ [58] hcap (by omega) (Nat.le_trans (digT_le hS hD) (by decide))) (Reads.get (Reads.row (i := 2) rfl)) rfl rfl (fun x10 hx10 => ?_))
    refine ExL.pures 1 rfl ?_
    refine ExL.nil ?_
    refine Ex.ret ?_
    refine ⟨rfl, ?_⟩
    refine RetQ.mk () rfl (.tmp rfl .nil) (rfl) [] (rfl) rfl (trivial)
theorem e_14 : Enters Tryz.prog 14 := Enters.of Tryz.func14 rfl
theorem c_iDigitsText (s : List Int) (hu : Nums 255 s) (As : Option Addr) (cs : Nat) (hls : s.length ≤ maxLen) (a : Dig) (ha : Nums 255 a.l) : Ret Tryz.prog 14 [.slice As s.length cs, .agg (encD a).toArray] (fun w => Rd w As (s.flatMap (eI .u8)) ∧ TabO Tryz.prog w) (fun x : Unit => sv (digTx s a.l)) (fun x => []) (fun x => True) := by
  refine Ret.of e_14 Tryz.func14 rfl Tryz.ntmps14 rfl rfl (fun w hpre => ?_)
  have hs := hpre.1.base
  have htab := hpre.2
  have hm0 : maxLen = 9223372036854775807 := rfl
  refine Ex.regSeq (ExL.pures 0 rfl ?_)
  refine ExL.op rfl (op_box rfl rfl rfl rfl rfl (fun b1 => ?_))
  refine ExL.pures 1 rfl ?_
  refine ExL.nil ?_
  refine Ex.seq ?_
  refine Ex.regSeq (ExL.pures 1 rfl ?_)
  refine ExL.free (fr_loadN rfl rfl rfl rfl rfl (SegO.whole (i := 0) rfl)) rfl rfl rfl ?_
  refine ExL.op rfl (op_ret rfl rfl rfl (c_iValidDigits s (by assumption) _ _ (by omega) a (by assumption)) (Reads.get (Reads.old hs)) rfl rfl (fun x2 hx2 => ?_))
  refine ExL.pures 1 rfl ?_
  refine ExL.nil ?_
  refine Ex.cond rfl (fun hb3 => ?_) (fun hb3 => ?_)
  · replace hb3 := nb_t hb3
    refine Ex.regSeq (ExL.pures 1 rfl ?_)
    refine ExL.nil ?_
    refine Ex.ret ?_
    refine RetQ.mk () rfl (.tmp rfl .nil) (tS (by first | exact (digTx_f (by assumption)).symm | exact (digTx_t (by assumption)).symm)) [] (rfl) rfl (trivial)
  · replace hb3 := nb_f hb3
    refine Ex.skip ?_
    refine Ex.regSeq (ExL.pures 1 rfl ?_)
    refine ExL.free (fr_loadN rfl rfl rfl rfl rfl (SegO.whole (i := 0) rfl)) rfl rfl rfl ?_
    refine ExL.op rfl (op_ret rfl rfl rfl (c_text s (by first | assumption | simp_all) _ _ a (by assumption) (by first | assumption | simp_all)) (fun w hw => ⟨Reads.get (Reads.old hs) w hw, TabO.keep htab hw⟩) rfl rfl (fun x4 hx4 => ?_))
    refine ExL.pures 1 rfl ?_
    refine ExL.nil ?_
    refine Ex.ret ?_
    refine RetQ.mk () rfl (.tmp rfl .nil) (tS (by first | exact (digTx_f (by assumption)).symm | exact (digTx_t (by assumption)).symm)) [] (rfl) rfl (trivial)
end Go.Proofs.YtidnicdeogdedaaGreatDoor

/- What these functions of the program hand back, each proved by walking its operations. -/
set_option linter.unusedVariables false
set_option linter.unusedSimpArgs false
set_option maxRecDepth 4000
namespace Go.Proofs.YtidnicdeogdedaaGreatDoor
open Go Go.Sx Go.RowKit Go.W Go.Proofs
attribute [local irreducible] Ex ExL ExD Op1 Free RetQ MutQ Reads CellO SegO LoadsAs
theorem e_13 : Enters Tryz.prog 13 := Enters.of Tryz.func13 rfl
set_option maxHeartbeats 1000000 in
theorem c_iReadDigits (s : List Int) (hu : Nums 255 s) (As : Option Addr) (cs : Nat) (hls : s.length ≤ maxLen) (t : List UInt8) (hl : t.length ≤ 1048576) : Ret Tryz.prog 13 [.slice As s.length cs, sv t] (fun w => Rd w As (s.flatMap (eI .u8)) ∧ RdO 2 0 1 w ∧ TabO Tryz.prog w) (fun x : Dig × Int => .tuple #[.agg (encD x.1).toArray, .int .i64 x.2]) (fun x => []) (fun x => RdDig s t x) := by
  refine Ret.of e_13 Tryz.func13 rfl Tryz.ntmps13 rfl rfl (fun w hpre => ?_)
  have hs := hpre.1.base
  have hrd := hpre.2.1
  have htab := hpre.2.2
  have hpn := splitA_len 58 t []
  have hm0 : maxLen = 9223372036854775807 := rfl
  refine Ex.regSeq (ExL.pures 0 rfl ?_)
  refine ExL.op rfl (op_alloc rfl rfl rfl rfl rfl (fun b1 => ?_))
  refine ExL.pures 1 rfl ?_
  refine ExL.nil ?_
  refine Ex.seq ?_
  refine Ex.regSeq (ExL.pures 1 rfl ?_)
  refine ExL.op rfl (op_ret rfl rfl rfl (c_ValidStack _ (by assumption) _ _ (by first | assumption | omega | (unfold maxLen; omega))) (Reads.get (Reads.old hs)) rfl rfl (fun x2 hx2 => ?_))
  refine ExL.pures 1 rfl ?_
  refine ExL.nil ?_
  refine Ex.cond rfl (fun hb3 => ?_) (fun hb3 => ?_)
  · replace hb3 := nb_t hb3
    refine Ex.regSeq (ExL.pures 0 rfl ?_)
    refine ExL.free (fr_build rfl rfl rfl rfl) rfl rfl rfl ?_
    refine ExL.op rfl (op_storeC (i := 0) rfl rfl rfl rfl rfl rfl rfl rfl rfl rfl ?_)
    refine ExL.pures 1 rfl ?_
    refine ExL.nil ?_
    refine Ex.ret ?_
    refine RetQ.mk (dig0, 1) rfl (.cell rfl (.many rfl rfl rfl (SegO.whole (i := 0) rfl)) (.tmp rfl .nil)) (rfl) [] (rfl) rfl (rdDig_v (by assumption))
  · replace hb3 := nb_f hb3
    refine Ex.skip ?_
    have hv := (by assumption : validStack s = true)
    have hS := stk hv
    have h8 := hS.len8
    refine Ex.regSeq (ExL.pures 0 rfl ?_)
    refine ExL.free (fr_build rfl rfl rfl rfl) rfl rfl rfl ?_
    refine ExL.pures 1 rfl ?_
    refine ExL.op rfl (op_ret rfl rfl rfl (c_Split t 58 (by omega)) (fun w hw => RdO.keep hrd hw) rfl rfl (fun x4 hx4 => ?_))
    refine ExL.op rfl (op_alloc rfl rfl rfl rfl rfl (fun b5 => ?_))
    refine ExL.op rfl (op_storeC (i := 0) rfl rfl rfl rfl rfl rfl rfl rfl rfl rfl ?_)
    refine ExL.pures 1 rfl ?_
    refine ExL.nil ?_
    refine Ex.seq ?_
    refine Ex.regSeq (ExL.pures 4 rfl ?_)
    refine ExL.neq rfl rfl rfl rfl rfl rfl (fun h6 => ?_) (fun h6 => ?_)
    · refine ExL.nil ?_
      refine Ex.cond_t rfl ?_
      refine Ex.regSeq (ExL.pures 0 rfl ?_)
      refine ExL.free (fr_build rfl rfl rfl rfl) rfl rfl rfl ?_
      refine ExL.op rfl (op_storeC (i := 2) rfl rfl rfl rfl rfl rfl rfl rfl rfl rfl ?_)
      refine ExL.pures 1 rfl ?_
      refine ExL.nil ?_
      refine Ex.ret ?_
      refine RetQ.mk (dig0, 5) rfl (.cell rfl (.many rfl rfl rfl (SegO.whole (i := 2) rfl)) (.tmp rfl .nil)) (rfl) [] (rfl) rfl (rdDig_no (by assumption) (ndg_len hS (by omega)))
    · refine ExL.nil ?_
      refine Ex.cond_f rfl ?_
      refine Ex.skip ?_
      refine Ex.seq ?_
      refine Ex.regSeq (ExL.pures 3 rfl ?_)
      refine ExL.nil ?_
      refine Ex.block ?_
      refine Ex.loopK (X := DgS) (fun q => [(27, .int .i64 q.k)]) (fun q => [.blk b5 (q.d.flatMap (eI .u8)) 30]) (fun q => q.k ≤ s.length ∧ q.d.length = 8 ∧ Nums 255 q.d ∧ DigU s t q.d q.k) (fun q => s.length - q.k) (⟨0, zeros8⟩ : DgS) [(0, _), (1, _), (4, _), (6, _), (25, _), (26, _)] [_, _] 3 [0, 1, 2] ⟨rfl, trivial⟩ ⟨rfl, rfl, rfl, rfl, rfl, rfl, trivial⟩ (rfl) rfl ⟨Nat.zero_le _, rfl, nums_z, digU_0 s t⟩ (fun q hI => ?_)
      have hI : q.k ≤ s.length ∧ q.d.length = 8 ∧ Nums 255 q.d ∧ DigU s t q.d q.k := hI
      obtain ⟨hqk, hq8, hqn, hqd⟩ := hI
      refine Ex.regSeq (ExL.pures 0 rfl ?_)
      refine ExL.lss rfl rfl rfl rfl rfl rfl (fun h7 => ?_) (fun h7 => ?_)
      · refine ExL.nil ?_
        refine Ex.seq ?_
        refine Ex.cond_t rfl ?_
        refine Ex.skip ?_
        refine Ex.seq ?_
        refine Ex.block ?_
        have hwl := piece_le 58 t q.k
        refine Ex.regSeq (ExL.pures 1 rfl ?_)
        refine ExL.free (fr_indexAddr (sz := 1) rfl rfl rfl rfl rfl rfl (by omega)) rfl rfl rfl ?_
        refine ExL.free (fr_load rfl rfl rfl rfl (by first | exact cellN (Reads.row (i := 1) rfl) eSt_len ([] : List UInt8) 0 rfl (by omega) rfl | exact cellF (Reads.row (i := 1) rfl) eSt_len ([] : List UInt8) 0 rfl (by omega) rfl)) rfl rfl rfl ?_
        refine ExL.pures 2 rfl ?_
        refine ExL.nil ?_
        refine Ex.regSeq (ExL.pures 1 rfl ?_)
        refine ExL.op rfl (op_ret rfl rfl rfl (c_ParseUint ((splitA 58 [] t).getD q.k []) (by omega)) (fun w hw => RdO.keep hrd hw) rfl rfl (fun x8 hx8 => ?_))
        have hbx8 : 0 ≤ x8.1 ∧ x8.1 ≤ 127 := hx8.1
        refine ExL.pures 5 rfl ?_
        refine ExL.nil ?_
        refine Ex.seq ?_
        refine Ex.regSeq (ExL.pures 1 rfl ?_)
        refine ExL.free (fr_neq_err rfl rfl rfl rfl) rfl rfl rfl ?_
        refine ExL.nil ?_
        refine Ex.cond rfl (fun hb9 => ?_) (fun hb9 => ?_)
        · replace hb9 := nb_t hb9
          refine Ex.regSeq (ExL.pures 0 rfl ?_)
          refine ExL.free (fr_build rfl rfl rfl rfl) rfl rfl rfl ?_
          refine ExL.op rfl (op_storeC (i := 2) rfl rfl rfl rfl rfl rfl rfl rfl rfl rfl ?_)
          refine ExL.pures 1 rfl ?_
          refine ExL.nil ?_
          refine Ex.ret ?_
          refine RetQ.mk (dig0, 5) rfl (.cell rfl (.many rfl rfl rfl (SegO.whole (i := 2) rfl)) (.tmp rfl .nil)) (rfl) [] (rfl) rfl (rdDig_no hv (ndg_err hS (j := s.length - 1 - q.k) (by omega) (by rw [show s.length - 1 - (s.length - 1 - q.k) = q.k by omega]; exact hx8.2.2 (by assumption))))
        · replace hb9 := nb_f hb9
          refine Ex.skip ?_
          obtain ⟨j, hj⟩ : ∃ j : Nat, (s.length : Int) - 1 - q.k = (j : Int) := ⟨s.length - 1 - q.k, by omega⟩
          have hjj : s.length - 1 - q.k = j := by omega
          refine Ex.region (ExL.pures 2 rfl ?_)
          refine ExL.free (by first | exact fr_sub64 rfl rfl rfl (by omega) | exact fr_sub rfl rfl rfl) rfl rfl rfl ?_
          refine ExL.pures 1 rfl ?_
          refine ExL.free (fr_sub64J j rfl rfl rfl hj (by omega)) rfl rfl rfl ?_
          refine ExL.pures 1 rfl ?_
          refine ExL.free (by first | exact fr_conv_u8 rfl rfl rfl rfl (by omega) | exact fr_conv rfl rfl rfl rfl) rfl rfl rfl ?_
          refine ExL.free (fr_indexAddr_b (sz := 1) rfl rfl rfl rfl rfl (by omega)) rfl rfl rfl ?_
          refine ExL.op rfl (op_store (i := 0) rfl rfl rfl rfl rfl rfl rfl rfl (room (eI_len .u8) (k := j) (by omega) (by simp) rfl) rfl ?_)
          refine ExL.nil ?_
          refine Ex.region (ExL.pures 0 rfl ?_)
          refine ExL.free (by first | exact fr_add64 rfl rfl rfl (by omega) | exact fr_add rfl rfl rfl) rfl rfl rfl ?_
          refine ExL.pures 1 rfl ?_
          refine ExL.nil ?_
          refine Hand.mk (⟨q.k + 1, q.d.set j x8.1⟩ : DgS) 3 [0, 1, 2] ⟨rfl, trivial⟩ ⟨rfl, rfl, rfl, rfl, rfl, rfl, trivial⟩ (pkB (set_put (eI_len .u8) q.d j _ (by omega) (by simp) rfl)) rfl (⟨by dsimp only; omega, by rw [List.length_set]; exact hq8, nums_set hqn ⟨by omega, by omega⟩, digU_s hq8 (by omega) (by omega) hjj.symm hqd (hx8.2.1 (by assumption))⟩) (by dsimp only; omega)
      · refine ExL.nil ?_
        refine Ex.seq ?_
        refine Ex.cond_f rfl ?_
        refine Ex.exit ?_
        have hks : q.k = s.length := by omega
        rw [← encD_dig hq8]
        have hnd : Nums 255 (dig q.d).l := by rw [dig_l hq8]; exact hqn
        refine Ex.seq ?_
        refine Ex.regSeq (ExL.pures 1 rfl ?_)
        refine ExL.free (fr_loadN rfl rfl rfl rfl rfl (SegO.whole (i := 0) rfl)) rfl rfl rfl ?_
        refine ExL.op rfl (op_ret rfl rfl rfl (c_iDigitsText s (by assumption) _ _ (by omega) (dig q.d) (by assumption)) (fun w hw => ⟨Reads.get (Reads.old hs) w hw, TabO.keep htab hw⟩) rfl rfl (fun x10 hx10 => ?_))
        refine ExL.pures 1 rfl ?_
        refine ExL.free (fr_neqS (l := (digTx s (dig q.d).l)) (r := t) rfl rfl rfl) rfl rfl rfl ?_
        refine ExL.nil ?_
        refine Ex.cond rfl (fun hb11 => ?_) (fun hb11 => ?_)
        · replace hb11 := nd_t hb11
          refine Ex.regSeq (ExL.pures 0 rfl ?_)
          refine ExL.free (fr_build rfl rfl rfl rfl) rfl rfl rfl ?_
          refine ExL.op rfl (op_storeC (i := 2) rfl rfl rfl rfl rfl rfl rfl rfl rfl rfl ?_)
          refine ExL.pures 1 rfl ?_
          refine ExL.nil ?_
          refine Ex.ret ?_
          refine RetQ.mk (dig0, 5) rfl (.cell rfl (.many rfl rfl rfl (SegO.whole (i := 2) rfl)) (.tmp rfl .nil)) (rfl) [] (rfl) rfl (rdDig_n hv hq8 (by rw [← hks]; exact hqd) (by assumption))
        · replace hb11 := nd_f hb11
          refine Ex.skip ?_
          refine Ex.regSeq (ExL.pures 0 rfl ?_)
          refine ExL.free (fr_loadN rfl rfl rfl rfl rfl (SegO.whole (i := 0) rfl)) rfl rfl rfl ?_
          refine ExL.op rfl (op_storeC (i := 2) rfl rfl rfl rfl rfl rfl rfl rfl rfl rfl ?_)
          refine ExL.pures 1 rfl ?_
          refine ExL.nil ?_
          refine Ex.ret ?_
          refine RetQ.mk (dig q.d, 0) rfl (.cell rfl (.many rfl rfl rfl (SegO.whole (i := 2) rfl)) (.tmp rfl .nil)) (rfl) [] (rfl) rfl (rdDig_i hv hq8 hqn (by omega) (by rw [← hks]; exact hqd) (by assumption))
end Go.Proofs.YtidnicdeogdedaaGreatDoor

/- What these functions of the program hand back, each proved by walking its operations. -/
set_option linter.unusedVariables false
set_option linter.unusedSimpArgs false
set_option maxRecDepth 4000
namespace Go.Proofs.YtidnicdeogdedaaGreatDoor
open Go Go.Sx Go.RowKit Go.W Go.Proofs
attribute [local irreducible] Ex ExL ExD Op1 Free RetQ MutQ Reads CellO SegO LoadsAs
theorem e_5 : Enters Tryz.prog 5 := Enters.of Tryz.func5 rfl
theorem c_P6Stack (code : List Int) (Ac : Option Addr) (cc : Nat) (hcl : code.length ≤ maxLen) (hcu : Nums 255 code) : Ret Tryz.prog 5 [.slice Ac code.length cc] (fun w => Rd w Ac (code.flatMap (eI .u8))) (fun x : (Option Addr × Nat) × List Int => .slice x.1.1 x.2.length x.1.2) (fun x => [.row (.slice x.1.1 x.2.length x.1.2) 5 1 x.2.length (x.2.flatMap (eI .u8))]) (fun x => DrStk x.2) := by
  refine Ret.of e_5 Tryz.func5 rfl Tryz.ntmps5 rfl rfl (fun w hpre => ?_)
  have hcode := hpre.base
  have hm0 : maxLen = 9223372036854775807 := rfl
  refine Ex.regSeq (ExL.pures 1 rfl ?_)
  refine ExL.nil ?_
  refine Ex.regSeq (ExL.pures 1 rfl ?_)
  refine ExL.op rfl (op_ret rfl rfl rfl (c_l00From code _ _) (fun _ _ => trivial) rfl rfl (fun x1 hx1 => ?_))
  refine ExL.op rfl (op_mut rfl rfl rfl (c_l01Drawn code _ _ (by omega) (by assumption) _ 0 _ (by omega)) (perm_at (i := 0) rfl) (hcode) rfl rfl (fun x2 hx2 => ?_))
  obtain ⟨hSx2, hqx2⟩ := hx2
  have hux2 := hSx2.nums
  have hvx2 := hSx2.valid
  have hzx2 := hSx2.size
  have hlx2 := hSx2.2
  refine ExL.pures 1 rfl ?_
  refine ExL.nil ?_
  refine Ex.ret ?_
  refine RetQ.mk ((x2.2.1.1, x2.2.1.2), x2.2.2) rfl (.tmp rfl .nil) (rfl) [1] (rfl) rfl ((by assumption : DrStk _))
theorem e_6 : Enters Tryz.prog 6 := Enters.of Tryz.func6 rfl
theorem c_P6Value (code : List Int) (Ac : Option Addr) (cc : Nat) (hcl : code.length ≤ maxLen) (hcu : Nums 255 code) (s : List Int) (hv : validStack s = true) (hu : Nums 255 s) (As : Option Addr) (cs : Nat) : Ret Tryz.prog 6 [.slice Ac code.length cc, .slice As s.length cs] (fun w => Rd w Ac (code.flatMap (eI .u8)) ∧ Rd w As (s.flatMap (eI .u8))) (fun x : Int => .int .i64 x) (fun x => []) (fun x => 0 ≤ x ∧ x < size s) := by
  refine Ret.of e_6 Tryz.func6 rfl Tryz.ntmps6 rfl rfl (fun w hpre => ?_)
  have hcode := hpre.1.base
  have hs := hpre.2.base
  have hS := stk hv
  have h8 := hS.len8
  have hz1 := hS.size_
  have hz2 := hS.le
  have hz3 := hS.pos
  have hm1 := fun z => Int.emod_nonneg z (show size s ≠ 0 by omega)
  have hm2 := fun z => Int.emod_lt_of_pos z (show 0 < size s by omega)
  have hm0 : maxLen = 9223372036854775807 := rfl
  refine Ex.regSeq (ExL.pures 1 rfl ?_)
  refine ExL.nil ?_
  refine Ex.regSeq (ExL.pures 1 rfl ?_)
  refine ExL.op rfl (op_ret rfl rfl rfl (c_l00From code _ _) (fun _ _ => trivial) rfl rfl (fun x1 hx1 => ?_))
  refine ExL.pures 1 rfl ?_
  refine ExL.nil ?_
  refine Ex.seq ?_
  refine Ex.regSeq (ExL.pures 1 rfl ?_)
  refine ExL.op rfl (op_mut rfl rfl rfl (c_one code _ _ (by omega) (by assumption) _ 0 _ (by omega) 4 (by omega)) (perm_at (i := 0) rfl) (hcode) rfl rfl (fun x2 hx2 => ?_))
  refine ExL.nil ?_
  refine Ex.cond rfl (fun hb3 => ?_) (fun hb3 => ?_)
  · refine Ex.regSeq (ExL.pures 1 rfl ?_)
    refine ExL.op rfl (op_ret rfl rfl rfl (c_l01Size _ (by assumption) _ _ (by first | assumption | omega | (unfold maxLen; omega))) (Reads.get (Reads.old hs)) rfl rfl (fun x4 hx4 => ?_))
    refine ExL.free (by first | exact fr_sub64 rfl rfl rfl (by omega) | exact fr_sub rfl rfl rfl) rfl rfl rfl ?_
    refine ExL.pures 1 rfl ?_
    refine ExL.nil ?_
    refine Ex.ret ?_
    refine RetQ.mk _ rfl (.tmp rfl .nil) (rfl) [] (rfl) rfl (by first | exact ⟨hm1 _, hm2 _⟩ | (constructor <;> omega))
  · refine Ex.skip ?_
    refine Ex.regSeq (ExL.pures 1 rfl ?_)
    refine ExL.op rfl (op_mut rfl rfl rfl (c_pick code _ _ (by omega) (by assumption) _ x2.2.1 _ (by omega) 1073741824 (by omega)) (perm_at (i := 0) rfl) (hcode) rfl rfl (fun x5 hx5 => ?_))
    refine ExL.pures 1 rfl ?_
    refine ExL.op rfl (op_ret rfl rfl rfl (c_l01Size _ (by assumption) _ _ (by first | assumption | omega | (unfold maxLen; omega))) (Reads.get (Reads.old hs)) rfl rfl (fun x6 hx6 => ?_))
    refine ExL.free (by first | exact fr_remP rfl rfl rfl (by omega) | exact fr_rem rfl rfl rfl (by omega)) rfl rfl rfl ?_
    refine ExL.pures 1 rfl ?_
    refine ExL.nil ?_
    refine Ex.ret ?_
    refine RetQ.mk _ rfl (.tmp rfl .nil) (rfl) [] (rfl) rfl (by first | exact ⟨hm1 _, hm2 _⟩ | (constructor <;> omega))
theorem e_7 : Enters Tryz.prog 7 := Enters.of Tryz.func7 rfl
theorem c_iSizeOf (s : List Int) (hv : validStack s = true) (hu : Nums 255 s) (As : Option Addr) (cs : Nat) : Ret Tryz.prog 7 [.slice As s.length cs] (fun w => Rd w As (s.flatMap (eI .u8))) (fun x : Unit => .tuple #[.int .i64 (size s), .int .i64 0]) (fun x => []) (fun x => True) := by
  refine Ret.of e_7 Tryz.func7 rfl Tryz.ntmps7 rfl rfl (fun w hpre => ?_)
  have hs := hpre.base
  have hS := stk hv
  have h8 := hS.len8
  have hm0 : maxLen = 9223372036854775807 := rfl
  refine Ex.regSeq (ExL.pures 2 rfl ?_)
  refine ExL.nil ?_
  refine Ex.seq ?_
  refine Ex.regSeq (ExL.pures 1 rfl ?_)
  refine ExL.op rfl (op_ret rfl rfl rfl (c_ValidStack _ (by assumption) _ _ (by first | assumption | omega | (unfold maxLen; omega))) (Reads.get (Reads.old hs)) rfl rfl (fun x1 hx1 => ?_))
  refine ExL.pures 1 rfl ?_
  refine ExL.nil ?_
  refine Ex.cond rfl (fun hb2 => ?_) (fun hb2 => ?_)
  · replace hb2 := nb_t hb2
    refine Ex.regSeq (ExL.pures 2 rfl ?_)
    refine ExL.nil ?_
    refine Ex.ret ?_
    refine RetQ.mk () rfl (.tmp rfl (.tmp rfl .nil)) (t2 (by first | rfl | (exfalso; simp_all; done)) (by first | rfl | (exfalso; simp_all; done))) [] (rfl) rfl (trivial)
  · replace hb2 := nb_f hb2
    refine Ex.skip ?_
    refine Ex.regSeq (ExL.pures 1 rfl ?_)
    refine ExL.op rfl (op_ret rfl rfl rfl (c_size _ (by assumption) _ _ (by first | assumption | omega | (unfold maxLen; omega))) (Reads.get (Reads.old hs)) rfl rfl (fun x3 hx3 => ?_))
    refine ExL.pures 2 rfl ?_
    refine ExL.nil ?_
    refine Ex.ret ?_
    refine RetQ.mk () rfl (.tmp rfl (.tmp rfl .nil)) (t2 (by first | rfl | (exfalso; simp_all; done)) (by first | rfl | (exfalso; simp_all; done))) [] (rfl) rfl (trivial)
theorem e_9 : Enters Tryz.prog 9 := Enters.of Tryz.func9 rfl
theorem c_DigitsOf (s : List Int) (hv : validStack s = true) (hu : Nums 255 s) (As : Option Addr) (cs : Nat) (v : Int) (hv0 : 0 ≤ v ∧ v < size s) : Ret Tryz.prog 9 [.slice As s.length cs, .int .i64 v] (fun w => Rd w As (s.flatMap (eI .u8))) (fun x : Unit => .tuple #[.agg (encD (dig (digs s v))).toArray, .int .i64 0]) (fun x => []) (fun x => True) := by
  refine Ret.of e_9 Tryz.func9 rfl Tryz.ntmps9 rfl rfl (fun w hpre => ?_)
  have hs := hpre.base
  have hS := stk hv
  have h8 := hS.len8
  have hz1 := hS.size_
  have hz2 := hS.le
  have hm0 : maxLen = 9223372036854775807 := rfl
  refine Ex.regSeq (ExL.pures 0 rfl ?_)
  refine ExL.op rfl (op_alloc rfl rfl rfl rfl rfl (fun b1 => ?_))
  refine ExL.pures 1 rfl ?_
  refine ExL.nil ?_
  refine Ex.seq ?_
  refine Ex.regSeq (ExL.pures 1 rfl ?_)
  refine ExL.op rfl (op_ret rfl rfl rfl (c_l01Ok _ (by assumption) _ _ (by first | assumption | omega | (unfold maxLen; omega))) (Reads.get (Reads.old hs)) rfl rfl (fun x2 hx2 => ?_))
  refine ExL.pures 1 rfl ?_
  refine ExL.nil ?_
  refine Ex.cond rfl (fun hb3 => ?_) (fun hb3 => ?_)
  · replace hb3 := nb_t hb3
    refine Ex.regSeq (ExL.pures 0 rfl ?_)
    refine ExL.free (fr_build rfl rfl rfl rfl) rfl rfl rfl ?_
    refine ExL.op rfl (op_storeC (i := 0) rfl rfl rfl rfl rfl rfl rfl rfl rfl rfl ?_)
    refine ExL.pures 1 rfl ?_
    refine ExL.nil ?_
    refine Ex.ret ?_
    refine RetQ.mk () rfl (.cell rfl (.many rfl rfl rfl (SegO.whole (i := 0) rfl)) (.tmp rfl .nil)) (t2 (by first | rfl | (exfalso; simp_all; done) | (exfalso; omega)) (by first | rfl | (exfalso; simp_all; done) | (exfalso; omega))) [] (rfl) rfl (trivial)
  · replace hb3 := nb_f hb3
    refine Ex.skip ?_
    refine Ex.seq ?_
    refine Ex.regSeq (ExL.pures 2 rfl ?_)
    refine ExL.op rfl (op_ret rfl rfl rfl (c_l01Size _ (by assumption) _ _ (by first | assumption | omega | (unfold maxLen; omega))) (Reads.get (Reads.old hs)) rfl rfl (fun x4 hx4 => ?_))
    refine ExL.free (by first | exact fr_sub64 rfl rfl rfl (by omega) | exact fr_sub rfl rfl rfl) rfl rfl rfl ?_
    refine ExL.op rfl (op_ret rfl rfl rfl (c_l00In _ _ _) (fun _ _ => trivial) rfl rfl (fun x5 hx5 => ?_))
    refine ExL.pures 1 rfl ?_
    refine ExL.nil ?_
    refine Ex.cond rfl (fun hb6 => ?_) (fun hb6 => ?_)
    · replace hb6 := nd_t hb6
      refine Ex.regSeq (ExL.pures 0 rfl ?_)
      refine ExL.free (fr_build rfl rfl rfl rfl) rfl rfl rfl ?_
      refine ExL.op rfl (op_storeC (i := 0) rfl rfl rfl rfl rfl rfl rfl rfl rfl rfl ?_)
      refine ExL.pures 1 rfl ?_
      refine ExL.nil ?_
      refine Ex.ret ?_
      refine RetQ.mk () rfl (.cell rfl (.many rfl rfl rfl (SegO.whole (i := 0) rfl)) (.tmp rfl .nil)) (t2 (by first | rfl | (exfalso; simp_all; done) | (exfalso; omega)) (by first | rfl | (exfalso; simp_all; done) | (exfalso; omega))) [] (rfl) rfl (trivial)
    · replace hb6 := nd_f hb6
      refine Ex.skip ?_
      refine Ex.regSeq (ExL.pures 2 rfl ?_)
      refine ExL.op rfl (op_ret rfl rfl rfl (c_l01Of s (by first | assumption | simp_all) _ _ _ (by omega)) (Reads.get (Reads.old hs)) rfl rfl (fun x7 hx7 => ?_))
      refine ExL.op rfl (op_storeC (i := 0) rfl rfl rfl rfl rfl rfl rfl rfl rfl rfl ?_)
      refine ExL.pures 1 rfl ?_
      refine ExL.nil ?_
      refine Ex.ret ?_
      refine RetQ.mk () rfl (.cell rfl (.many rfl rfl rfl (SegO.whole (i := 0) rfl)) (.tmp rfl .nil)) (t2 (by first | rfl | (exfalso; simp_all; done) | (exfalso; omega)) (by first | rfl | (exfalso; simp_all; done) | (exfalso; omega))) [] (rfl) rfl (trivial)
theorem e_8 : Enters Tryz.prog 8 := Enters.of Tryz.func8 rfl
theorem c_iDigitsOf (s : List Int) (hv : validStack s = true) (hu : Nums 255 s) (As : Option Addr) (cs : Nat) (v : Int) (hv0 : 0 ≤ v ∧ v < size s) : Ret Tryz.prog 8 [.slice As s.length cs, .int .i64 v] (fun w => Rd w As (s.flatMap (eI .u8))) (fun x : Unit => .tuple #[.agg (encD (dig (digs s v))).toArray, .int .i64 0]) (fun x => []) (fun x => True) := by
  refine Ret.of e_8 Tryz.func8 rfl Tryz.ntmps8 rfl rfl (fun w hpre => ?_)
  have hs := hpre.base
  have hS := stk hv
  have h8 := hS.len8
  have hz1 := hS.size_
  have hz2 := hS.le
  have hm0 : maxLen = 9223372036854775807 := rfl
  refine Ex.regSeq (ExL.pures 0 rfl ?_)
  refine ExL.op rfl (op_alloc rfl rfl rfl rfl rfl (fun b1 => ?_))
  refine ExL.pures 1 rfl ?_
  refine ExL.nil ?_
  refine Ex.seq ?_
  refine Ex.block ?_
  refine Ex.regSeq (ExL.pures 1 rfl ?_)
  refine ExL.op rfl (op_ret rfl rfl rfl (c_ValidStack _ (by assumption) _ _ (by first | assumption | omega | (unfold maxLen; omega))) (Reads.get (Reads.old hs)) rfl rfl (fun x2 hx2 => ?_))
  refine ExL.pures 2 rfl ?_
  refine ExL.nil ?_
  refine Ex.cond rfl (fun hb3 => ?_) (fun hb3 => ?_)
  · replace hb3 := nb_t hb3
    refine Ex.regSeq (ExL.pures 0 rfl ?_)
    refine ExL.free (fr_build rfl rfl rfl rfl) rfl rfl rfl ?_
    refine ExL.op rfl (op_storeC (i := 0) rfl rfl rfl rfl rfl rfl rfl rfl rfl rfl ?_)
    refine ExL.pures 1 rfl ?_
    refine ExL.nil ?_
    refine Ex.ret ?_
    refine RetQ.mk () rfl (.cell rfl (.many rfl rfl rfl (SegO.whole (i := 0) rfl)) (.tmp rfl .nil)) (t2 (by first | rfl | (exfalso; simp_all; done) | (exfalso; omega)) (by first | rfl | (exfalso; simp_all; done) | (exfalso; omega))) [] (rfl) rfl (trivial)
  · replace hb3 := nb_f hb3
    refine Ex.regSeq (ExL.pures 2 rfl ?_)
    refine ExL.op rfl (op_ret rfl rfl rfl (c_hasValue s (by assumption) _ _ (by omega) _) (Reads.get (Reads.old hs)) rfl rfl (fun x4 hx4 => ?_))
    refine ExL.pures 2 rfl ?_
    refine ExL.nil ?_
    refine Ex.cond rfl (fun hb5 => ?_) (fun hb5 => ?_)
    · replace hb5 := nd_t hb5
      refine Ex.regSeq (ExL.pures 0 rfl ?_)
      refine ExL.free (fr_build rfl rfl rfl rfl) rfl rfl rfl ?_
      refine ExL.op rfl (op_storeC (i := 0) rfl rfl rfl rfl rfl rfl rfl rfl rfl rfl ?_)
      refine ExL.pures 1 rfl ?_
      refine ExL.nil ?_
      refine Ex.ret ?_
      refine RetQ.mk () rfl (.cell rfl (.many rfl rfl rfl (SegO.whole (i := 0) rfl)) (.tmp rfl .nil)) (t2 (by first | rfl | (exfalso; simp_all; done) | (exfalso; omega)) (by first | rfl | (exfalso; simp_all; done) | (exfalso; omega))) [] (rfl) rfl (trivial)
    · replace hb5 := nd_f hb5
      refine Ex.skip ?_
      refine Ex.regSeq (ExL.pures 2 rfl ?_)
      refine ExL.op rfl (op_ret rfl rfl rfl (c_digits s (by first | assumption | simp_all) _ _ _ (by omega)) (Reads.get (Reads.old hs)) rfl rfl (fun x6 hx6 => ?_))
      refine ExL.op rfl (op_storeC (i := 0) rfl rfl rfl rfl rfl rfl rfl rfl rfl rfl ?_)
      refine ExL.pures 1 rfl ?_
      refine ExL.nil ?_
      refine Ex.ret ?_
      refine RetQ.mk () rfl (.cell rfl (.many rfl rfl rfl (SegO.whole (i := 0) rfl)) (.tmp rfl .nil)) (t2 (by first | rfl | (exfalso; simp_all; done) | (exfalso; omega)) (by first | rfl | (exfalso; simp_all; done) | (exfalso; omega))) [] (rfl) rfl (trivial)
theorem e_10 : Enters Tryz.prog 10 := Enters.of Tryz.func10 rfl
theorem c_ValueOf (s : List Int) (hv : validStack s = true) (hu : Nums 255 s) (As : Option Addr) (cs : Nat) (a : Dig) (hd0 : validDig s a.l = true) (ha : Nums 255 a.l) : Ret Tryz.prog 10 [.slice As s.length cs, .agg (encD a).toArray] (fun w => Rd w As (s.flatMap (eI .u8))) (fun x : Unit => .tuple #[.int .i64 (val s a.l), .int .i64 0]) (fun x => []) (fun x => True) := by
  refine Ret.of e_10 Tryz.func10 rfl Tryz.ntmps10 rfl rfl (fun w hpre => ?_)
  have hs := hpre.base
  have hS := stk hv
  have h8 := hS.len8
  have hm0 : maxLen = 9223372036854775807 := rfl
  refine Ex.regSeq (ExL.pures 0 rfl ?_)
  refine ExL.op rfl (op_box rfl rfl rfl rfl rfl (fun b1 => ?_))
  refine ExL.pures 2 rfl ?_
  refine ExL.nil ?_
  refine Ex.seq ?_
  refine Ex.regSeq (ExL.pures 1 rfl ?_)
  refine ExL.free (fr_loadN rfl rfl rfl rfl rfl (SegO.whole (i := 0) rfl)) rfl rfl rfl ?_
  refine ExL.op rfl (op_ret rfl rfl rfl (c_iValidDigits s (by assumption) _ _ (by omega) a (by assumption)) (Reads.get (Reads.old hs)) rfl rfl (fun x2 hx2 => ?_))
  refine ExL.pures 1 rfl ?_
  refine ExL.nil ?_
  refine Ex.cond rfl (fun hb3 => ?_) (fun hb3 => ?_)
  · replace hb3 := nb_t hb3
    refine Ex.regSeq (ExL.pures 2 rfl ?_)
    refine ExL.nil ?_
    refine Ex.ret ?_
    refine RetQ.mk () rfl (.tmp rfl (.tmp rfl .nil)) (t2 (by first | rfl | (exfalso; simp_all; done)) (by first | rfl | (exfalso; simp_all; done))) [] (rfl) rfl (trivial)
  · replace hb3 := nb_f hb3
    refine Ex.skip ?_
    refine Ex.regSeq (ExL.pures 1 rfl ?_)
    refine ExL.free (fr_loadN rfl rfl rfl rfl rfl (SegO.whole (i := 0) rfl)) rfl rfl rfl ?_
    refine ExL.op rfl (op_ret rfl rfl rfl (c_value s (by first | assumption | simp_all) _ _ a (by assumption) (by first | assumption | simp_all)) (Reads.get (Reads.old hs)) rfl rfl (fun x4 hx4 => ?_))
    refine ExL.pures 2 rfl ?_
    refine ExL.nil ?_
    refine Ex.ret ?_
    refine RetQ.mk () rfl (.tmp rfl (.tmp rfl .nil)) (t2 (by first | rfl | (exfalso; simp_all; done)) (by first | rfl | (exfalso; simp_all; done))) [] (rfl) rfl (trivial)
theorem e_51 : Enters Tryz.prog 51 := Enters.of Tryz.func51 rfl
theorem c_stepped (s : List Int) (hv : validStack s = true) (As : Option Addr) (cs : Nat) (a : Dig) (ha : Nums 255 a.l) (hd : validDig s a.l = true) (hu : Nums 255 s) (n : Int) (hn1 : n = 1 ∨ n = -1) : Ret Tryz.prog 51 [.slice As s.length cs, .agg (encD a).toArray, .int .i64 n] (fun w => Rd w As (s.flatMap (eI .u8))) (fun x : Unit => .tuple #[.agg (encD (addD s a n)).toArray, .int .i64 (movedL a.l (addD s a n).l s.length), .int .i64 0]) (fun x => []) (fun x => True) := by
  refine Ret.of e_51 Tryz.func51 rfl Tryz.ntmps51 rfl rfl (fun w hpre => ?_)
  have hs := hpre.base
  have hS := stk hv
  have h8 := hS.len8
  have hD := digOk h8 ha hd
  have hn : s.length ≤ a.l.length := by rw [dig_len]; omega
  have hm0 : maxLen = 9223372036854775807 := rfl
  have hdl8 := dig_len a
  have hdl9 := dig_len (addD s a n)
  refine Ex.regSeq (ExL.pures 0 rfl ?_)
  refine ExL.op rfl (op_box rfl rfl rfl rfl rfl (fun b1 => ?_))
  refine ExL.op rfl (op_alloc rfl rfl rfl rfl rfl (fun b2 => ?_))
  refine ExL.pures 2 rfl ?_
  refine ExL.nil ?_
  refine Ex.seq ?_
  refine Ex.regSeq (ExL.pures 1 rfl ?_)
  refine ExL.free (fr_loadN rfl rfl rfl rfl rfl (SegO.whole (i := 1) rfl)) rfl rfl rfl ?_
  refine ExL.op rfl (op_ret rfl rfl rfl (c_iValidDigits s (by assumption) _ _ (by omega) a (by assumption)) (Reads.get (Reads.old hs)) rfl rfl (fun x3 hx3 => ?_))
  refine ExL.pures 1 rfl ?_
  refine ExL.nil ?_
  refine Ex.cond rfl (fun hb4 => ?_) (fun hb4 => ?_)
  · replace hb4 := nb_t hb4
    refine Ex.regSeq (ExL.pures 0 rfl ?_)
    refine ExL.free (fr_build rfl rfl rfl rfl) rfl rfl rfl ?_
    refine ExL.op rfl (op_storeC (i := 0) rfl rfl rfl rfl rfl rfl rfl rfl rfl rfl ?_)
    refine ExL.pures 2 rfl ?_
    refine ExL.nil ?_
    refine Ex.ret ?_
    refine RetQ.mk () rfl (.cell rfl (.many rfl rfl rfl (SegO.whole (i := 0) rfl)) (.tmp rfl (.tmp rfl .nil))) ((by first | (exfalso; simp_all; done) | exact t3 rfl (vI (by first | exact mv_8 hS hd | exact (mv_8 hS hd).symm)) rfl)) [] (rfl) rfl (trivial)
  · replace hb4 := nb_f hb4
    refine Ex.skip ?_
    refine Ex.regSeq (ExL.pures 1 rfl ?_)
    refine ExL.free (fr_loadN rfl rfl rfl rfl rfl (SegO.whole (i := 1) rfl)) rfl rfl rfl ?_
    refine ExL.pures 1 rfl ?_
    refine ExL.op rfl (op_ret rfl rfl rfl (c_added s (by first | assumption | simp_all) _ _ a (by assumption) (by first | assumption | simp_all) (by assumption) _ (by omega)) (Reads.get (Reads.old hs)) rfl rfl (fun x5 hx5 => ?_))
    refine ExL.pures 3 rfl ?_
    refine ExL.op rfl (op_alloc rfl rfl rfl rfl rfl (fun b6 => ?_))
    refine ExL.op rfl (op_storeC (i := 0) rfl rfl rfl rfl rfl rfl rfl rfl rfl rfl ?_)
    refine ExL.pures 1 rfl ?_
    refine ExL.nil ?_
    refine Ex.regSeq (ExL.pures 1 rfl ?_)
    refine ExL.nil ?_
    refine Ex.seq ?_
    refine Ex.regSeq (ExL.pures 1 rfl ?_)
    refine ExL.nil ?_
    refine Ex.block ?_
    refine Ex.loopK (X := Nat) (fun k => [(11, .int .i64 (movedL a.l (addD s a n).l k)), (25, .int .i64 k)]) (fun k => [.blk b6 ((addD s a n).l.flatMap (eI .u8)) 30, .blk b1 (a.l.flatMap (eI .u8)) 30]) (fun k => k ≤ 8) (fun k => 8 - k) 0 [(4, _), (6, _), (7, _), (8, _), (9, _)] [_] 3 [0, 2, 1] ⟨rfl, rfl, trivial⟩ ⟨rfl, rfl, rfl, rfl, rfl, trivial⟩ (rfl) rfl (Nat.zero_le _) (fun k hI => ?_)
    have hI : k ≤ 8 := hI
    refine Ex.regSeq (ExL.pures 0 rfl ?_)
    refine ExL.lss rfl rfl rfl rfl rfl rfl (fun h7 => ?_) (fun h7 => ?_)
    · refine ExL.nil ?_
      refine Ex.seq ?_
      refine Ex.cond_t rfl ?_
      refine Ex.skip ?_
      refine Ex.seq ?_
      refine Ex.block ?_
      have hmb := mv_bd a.l (addD s a n).l k
      refine Ex.regSeq (ExL.pures 2 rfl ?_)
      refine ExL.nil ?_
      refine Ex.drawSeqM rfl ?_
      refine ExD.take (i := 0) rfl (by kernel_rfl) (pureVal_ok rfl) ((List.Sublist.refl _)) rfl rfl rfl ?_
      refine ExD.take (i := 1) rfl (by kernel_rfl) (fr_indexAddr_b (sz := 1) rfl rfl rfl rfl rfl (by omega)) ((List.Sublist.refl _)) rfl rfl rfl ?_
      refine ExD.take (i := 2) rfl (by kernel_rfl) (fr_load rfl rfl rfl rfl (CellO.blk (i := 0) rfl (blkG (eI_len .u8) 0 rfl (by rw [hdl9]; omega) rfl))) ((List.Sublist.refl _)) rfl rfl rfl ?_
      refine ExD.take (i := 3) rfl (by kernel_rfl) (pureVal_ok rfl) ((List.Sublist.refl _)) rfl rfl rfl ?_
      refine ExD.take (i := 4) rfl (by kernel_rfl) (fr_indexAddr_b (sz := 1) rfl rfl rfl rfl rfl (by omega)) ((List.Sublist.refl _)) rfl rfl rfl ?_
      refine ExD.take (i := 5) rfl (by kernel_rfl) (fr_load rfl rfl rfl rfl (CellO.blk (i := 1) rfl (blkG (eI_len .u8) 0 rfl (by rw [hdl8]; omega) rfl))) ((List.Sublist.refl _)) rfl rfl rfl ?_
      refine ExD.cmp_neq (i := 6) rfl (by kernel_rfl) rfl rfl rfl ((List.Sublist.refl _)) rfl rfl rfl (fun h8 => ?_) (fun h8 => ?_)
      · refine ExD.done (by kernel_rfl) ?_
        refine Ex.cond_t rfl ?_
        refine Ex.region (ExL.pures 1 rfl ?_)
        refine ExL.free (by first | exact fr_add64 rfl rfl rfl (by omega) | exact fr_add rfl rfl rfl) rfl rfl rfl ?_
        refine ExL.pures 1 rfl ?_
        refine ExL.nil ?_
        refine Ex.region (ExL.pures 0 rfl ?_)
        refine ExL.free (by first | exact fr_add64 rfl rfl rfl (by omega) | exact fr_add rfl rfl rfl) rfl rfl rfl ?_
        refine ExL.pures 1 rfl ?_
        refine ExL.nil ?_
        refine Hand.mk (k + 1) 3 [0, 1, 2] ⟨agI (by first | exact (mv_t (by assumption)).symm | exact (mv_f (by assumption)).symm), rfl, trivial⟩ ⟨rfl, rfl, rfl, rfl, rfl, trivial⟩ (rfl) rfl (by omega) (by omega)
      · refine ExD.done (by kernel_rfl) ?_
        refine Ex.cond_f rfl ?_
        refine Ex.skip ?_
        refine Ex.region (ExL.pures 0 rfl ?_)
        refine ExL.free (by first | exact fr_add64 rfl rfl rfl (by omega) | exact fr_add rfl rfl rfl) rfl rfl rfl ?_
        refine ExL.pures 1 rfl ?_
        refine ExL.nil ?_
        refine Hand.mk (k + 1) 3 [0, 1, 2] ⟨agI (by first | exact (mv_t (by assumption)).symm | exact (mv_f (by assumption)).symm), rfl, trivial⟩ ⟨rfl, rfl, rfl, rfl, rfl, trivial⟩ (rfl) rfl (by omega) (by omega)
    · refine ExL.nil ?_
      refine Ex.seq ?_
      refine Ex.cond_f rfl ?_
      refine Ex.exit ?_
      obtain rfl : k = 8 := by omega
      refine Ex.regSeq (ExL.pures 0 rfl ?_)
      refine ExL.free (fr_loadN rfl rfl rfl rfl rfl (SegO.whole (i := 0) rfl)) rfl rfl rfl ?_
      refine ExL.pures 1 rfl ?_
      refine ExL.op rfl (op_storeC (i := 2) rfl rfl rfl rfl rfl rfl rfl rfl rfl rfl ?_)
      refine ExL.pures 2 rfl ?_
      refine ExL.nil ?_
      refine Ex.ret ?_
      refine RetQ.mk () rfl (.cell rfl (.many rfl rfl rfl (SegO.whole (i := 2) rfl)) (.tmp rfl (.tmp rfl .nil))) ((by first | (exfalso; simp_all; done) | exact t3 rfl (vI (by first | exact mv_8 hS hd | exact (mv_8 hS hd).symm)) rfl)) [] (rfl) rfl (trivial)
theorem e_52 : Enters Tryz.prog 52 := Enters.of Tryz.func52 rfl
theorem c_l01Step (s : List Int) (hv : validStack s = true) (As : Option Addr) (cs : Nat) (a : Dig) (ha : Nums 255 a.l) (hd : validDig s a.l = true) (hu : Nums 255 s) (n : Int) (hn1 : n = 1 ∨ n = -1) : Ret Tryz.prog 52 [.slice As s.length cs, .agg (encD a).toArray, .int .i64 n] (fun w => Rd w As (s.flatMap (eI .u8))) (fun x : Unit => .tuple #[.agg (encD (addD s a n)).toArray, .int .i64 (movedL a.l (addD s a n).l s.length), .int .i64 0]) (fun x => []) (fun x => True) := by
  refine Ret.of e_52 Tryz.func52 rfl Tryz.ntmps52 rfl rfl (fun w hpre => ?_)
  have hs := hpre.base
  have hS := stk hv
  have h8 := hS.len8
  have hD := digOk h8 ha hd
  have hn : s.length ≤ a.l.length := by rw [dig_len]; omega
  have hm0 : maxLen = 9223372036854775807 := rfl
  have hdl8 := dig_len a
  have hdl9 := dig_len (addD s a n)
  refine Ex.regSeq (ExL.pures 0 rfl ?_)
  refine ExL.op rfl (op_box rfl rfl rfl rfl rfl (fun b1 => ?_))
  refine ExL.op rfl (op_alloc rfl rfl rfl rfl rfl (fun b2 => ?_))
  refine ExL.pures 2 rfl ?_
  refine ExL.nil ?_
  refine Ex.seq ?_
  refine Ex.regSeq (ExL.pures 1 rfl ?_)
  refine ExL.free (fr_loadN rfl rfl rfl rfl rfl (SegO.whole (i := 1) rfl)) rfl rfl rfl ?_
  refine ExL.op rfl (op_ret rfl rfl rfl (c_sValidDigits s (by assumption) _ _ (by omega) a (by assumption)) (Reads.get (Reads.old hs)) rfl rfl (fun x3 hx3 => ?_))
  refine ExL.pures 1 rfl ?_
  refine ExL.nil ?_
  refine Ex.cond rfl (fun hb4 => ?_) (fun hb4 => ?_)
  · replace hb4 := nb_t hb4
    refine Ex.regSeq (ExL.pures 0 rfl ?_)
    refine ExL.free (fr_build rfl rfl rfl rfl) rfl rfl rfl ?_
    refine ExL.op rfl (op_storeC (i := 0) rfl rfl rfl rfl rfl rfl rfl rfl rfl rfl ?_)
    refine ExL.pures 2 rfl ?_
    refine ExL.nil ?_
    refine Ex.ret ?_
    refine RetQ.mk () rfl (.cell rfl (.many rfl rfl rfl (SegO.whole (i := 0) rfl)) (.tmp rfl (.tmp rfl .nil))) ((by first | (exfalso; simp_all; done) | exact t3 rfl rfl rfl)) [] (rfl) rfl (trivial)
  · replace hb4 := nb_f hb4
    refine Ex.skip ?_
    refine Ex.regSeq (ExL.pures 1 rfl ?_)
    refine ExL.free (fr_loadN rfl rfl rfl rfl rfl (SegO.whole (i := 1) rfl)) rfl rfl rfl ?_
    refine ExL.pures 1 rfl ?_
    refine ExL.op rfl (op_ret rfl rfl rfl (c_l01Add s (by first | assumption | simp_all) _ _ a (by assumption) (by first | assumption | simp_all) (by assumption) _ (by omega)) (Reads.get (Reads.old hs)) rfl rfl (fun x5 hx5 => ?_))
    refine ExL.pures 3 rfl ?_
    refine ExL.op rfl (op_alloc rfl rfl rfl rfl rfl (fun b6 => ?_))
    refine ExL.op rfl (op_storeC (i := 0) rfl rfl rfl rfl rfl rfl rfl rfl rfl rfl ?_)
    refine ExL.pures 1 rfl ?_
    refine ExL.nil ?_
    refine Ex.regSeq (ExL.pures 1 rfl ?_)
    refine ExL.nil ?_
    refine Ex.seq ?_
    refine Ex.regSeq (ExL.pures 1 rfl ?_)
    refine ExL.nil ?_
    refine Ex.block ?_
    refine Ex.loopK (X := Nat) (fun k => [(11, .int .i64 (movedL a.l (addD s a n).l k)), (12, .int .i64 k)]) (fun k => [.blk b6 ((addD s a n).l.flatMap (eI .u8)) 30, .blk b1 (a.l.flatMap (eI .u8)) 30]) (fun k => k ≤ s.length) (fun k => s.length - k) 0 [(0, _), (4, _), (6, _), (7, _), (8, _), (9, _)] [_] 3 [0, 2, 1] ⟨rfl, rfl, trivial⟩ ⟨rfl, rfl, rfl, rfl, rfl, rfl, trivial⟩ (rfl) rfl (Nat.zero_le _) (fun k hI => ?_)
    have hI : k ≤ s.length := hI
    refine Ex.seq ?_
    refine Ex.regSeq (ExL.pures 3 rfl ?_)
    refine ExL.lss rfl rfl rfl rfl rfl rfl (fun h7 => ?_) (fun h7 => ?_)
    · refine ExL.nil ?_
      refine Ex.cond_t rfl ?_
      refine Ex.skip ?_
      refine Ex.seq ?_
      refine Ex.block ?_
      have hmb := mv_bd a.l (addD s a n).l k
      refine Ex.drawSeqM rfl ?_
      refine ExD.take (i := 0) rfl (by kernel_rfl) (pureVal_ok rfl) ((List.Sublist.refl _)) rfl rfl rfl ?_
      refine ExD.take (i := 1) rfl (by kernel_rfl) (fr_indexAddr_b (sz := 1) rfl rfl rfl rfl rfl (by omega)) ((List.Sublist.refl _)) rfl rfl rfl ?_
      refine ExD.take (i := 2) rfl (by kernel_rfl) (fr_load rfl rfl rfl rfl (CellO.blk (i := 0) rfl (blkG (eI_len .u8) 0 rfl (by rw [hdl9]; omega) rfl))) ((List.Sublist.refl _)) rfl rfl rfl ?_
      refine ExD.take (i := 3) rfl (by kernel_rfl) (pureVal_ok rfl) ((List.Sublist.refl _)) rfl rfl rfl ?_
      refine ExD.take (i := 4) rfl (by kernel_rfl) (fr_indexAddr_b (sz := 1) rfl rfl rfl rfl rfl (by omega)) ((List.Sublist.refl _)) rfl rfl rfl ?_
      refine ExD.take (i := 5) rfl (by kernel_rfl) (fr_load rfl rfl rfl rfl (CellO.blk (i := 1) rfl (blkG (eI_len .u8) 0 rfl (by rw [hdl8]; omega) rfl))) ((List.Sublist.refl _)) rfl rfl rfl ?_
      refine ExD.cmp_neq (i := 6) rfl (by kernel_rfl) rfl rfl rfl ((List.Sublist.refl _)) rfl rfl rfl (fun h8 => ?_) (fun h8 => ?_)
      · refine ExD.done (by kernel_rfl) ?_
        refine Ex.cond_t rfl ?_
        refine Ex.region (ExL.pures 1 rfl ?_)
        refine ExL.free (by first | exact fr_add64 rfl rfl rfl (by omega) | exact fr_add rfl rfl rfl) rfl rfl rfl ?_
        refine ExL.pures 1 rfl ?_
        refine ExL.nil ?_
        refine Ex.region (ExL.pures 1 rfl ?_)
        refine ExL.free (by first | exact fr_add64 rfl rfl rfl (by omega) | exact fr_add rfl rfl rfl) rfl rfl rfl ?_
        refine ExL.pures 1 rfl ?_
        refine ExL.nil ?_
        refine Hand.mk (k + 1) 3 [0, 1, 2] ⟨agI (by first | exact (mv_t (by assumption)).symm | exact (mv_f (by assumption)).symm), rfl, trivial⟩ ⟨rfl, rfl, rfl, rfl, rfl, rfl, trivial⟩ (rfl) rfl (by omega) (by omega)
      · refine ExD.done (by kernel_rfl) ?_
        refine Ex.cond_f rfl ?_
        refine Ex.skip ?_
        refine Ex.region (ExL.pures 1 rfl ?_)
        refine ExL.free (by first | exact fr_add64 rfl rfl rfl (by omega) | exact fr_add rfl rfl rfl) rfl rfl rfl ?_
        refine ExL.pures 1 rfl ?_
        refine ExL.nil ?_
        refine Hand.mk (k + 1) 3 [0, 1, 2] ⟨agI (by first | exact (mv_t (by assumption)).symm | exact (mv_f (by assumption)).symm), rfl, trivial⟩ ⟨rfl, rfl, rfl, rfl, rfl, rfl, trivial⟩ (rfl) rfl (by omega) (by omega)
    · refine ExL.nil ?_
      refine Ex.cond_f rfl ?_
      refine Ex.exit ?_
      obtain rfl : k = s.length := by omega
      refine Ex.regSeq (ExL.pures 0 rfl ?_)
      refine ExL.free (fr_loadN rfl rfl rfl rfl rfl (SegO.whole (i := 0) rfl)) rfl rfl rfl ?_
      refine ExL.pures 1 rfl ?_
      refine ExL.op rfl (op_storeC (i := 2) rfl rfl rfl rfl rfl rfl rfl rfl rfl rfl ?_)
      refine ExL.pures 2 rfl ?_
      refine ExL.nil ?_
      refine Ex.ret ?_
      refine RetQ.mk () rfl (.cell rfl (.many rfl rfl rfl (SegO.whole (i := 2) rfl)) (.tmp rfl (.tmp rfl .nil))) ((by first | (exfalso; simp_all; done) | exact t3 rfl rfl rfl)) [] (rfl) rfl (trivial)
theorem e_19 : Enters Tryz.prog 19 := Enters.of Tryz.func19 rfl
theorem c_iStepUp (s : List Int) (hv : validStack s = true) (As : Option Addr) (cs : Nat) (a : Dig) (ha : Nums 255 a.l) (hd : validDig s a.l = true) (hu : Nums 255 s) : Ret Tryz.prog 19 [.slice As s.length cs, .agg (encD a).toArray] (fun w => Rd w As (s.flatMap (eI .u8))) (fun x : Unit => .tuple #[.agg (encD (addD s a 1)).toArray, .int .i64 (movedL a.l (addD s a 1).l s.length), .int .i64 0]) (fun x => []) (fun x => True) := by
  refine Ret.of e_19 Tryz.func19 rfl Tryz.ntmps19 rfl rfl (fun w hpre => ?_)
  have hs := hpre.base
  have hS := stk hv
  have h8 := hS.len8
  have hD := digOk h8 ha hd
  have hn : s.length ≤ a.l.length := by rw [dig_len]; omega
  have hm0 : maxLen = 9223372036854775807 := rfl
  refine Ex.regSeq (ExL.pures 0 rfl ?_)
  refine ExL.op rfl (op_box rfl rfl rfl rfl rfl (fun b1 => ?_))
  refine ExL.op rfl (op_alloc rfl rfl rfl rfl rfl (fun b2 => ?_))
  refine ExL.pures 2 rfl ?_
  refine ExL.nil ?_
  refine Ex.regSeq (ExL.pures 1 rfl ?_)
  refine ExL.free (fr_loadN rfl rfl rfl rfl rfl (SegO.whole (i := 1) rfl)) rfl rfl rfl ?_
  refine ExL.op rfl (op_ret rfl rfl rfl (c_stepped s (by assumption) _ _ a (by assumption) (by assumption) (by assumption) 1 (by omega)) (Reads.get (Reads.old hs)) rfl rfl (fun x3 hx3 => ?_))
  refine ExL.pures 3 rfl ?_
  refine ExL.op rfl (op_storeC (i := 0) rfl rfl rfl rfl rfl rfl rfl rfl rfl rfl ?_)
  refine ExL.pures 2 rfl ?_
  refine ExL.nil ?_
  refine Ex.ret ?_
  refine RetQ.mk () rfl (.cell rfl (.many rfl rfl rfl (SegO.whole (i := 0) rfl)) (.tmp rfl (.tmp rfl .nil))) (rfl) [] (rfl) rfl (trivial)
theorem e_20 : Enters Tryz.prog 20 := Enters.of Tryz.func20 rfl
theorem c_sStepUp (s : List Int) (hv : validStack s = true) (As : Option Addr) (cs : Nat) (a : Dig) (ha : Nums 255 a.l) (hd : validDig s a.l = true) (hu : Nums 255 s) : Ret Tryz.prog 20 [.slice As s.length cs, .agg (encD a).toArray] (fun w => Rd w As (s.flatMap (eI .u8))) (fun x : Unit => .tuple #[.agg (encD (addD s a 1)).toArray, .int .i64 (movedL a.l (addD s a 1).l s.length), .int .i64 0]) (fun x => []) (fun x => True) := by
  refine Ret.of e_20 Tryz.func20 rfl Tryz.ntmps20 rfl rfl (fun w hpre => ?_)
  have hs := hpre.base
  have hS := stk hv
  have h8 := hS.len8
  have hD := digOk h8 ha hd
  have hn : s.length ≤ a.l.length := by rw [dig_len]; omega
  have hm0 : maxLen = 9223372036854775807 := rfl
  refine Ex.regSeq (ExL.pures 0 rfl ?_)
  refine ExL.op rfl (op_box rfl rfl rfl rfl rfl (fun b1 => ?_))
  refine ExL.op rfl (op_alloc rfl rfl rfl rfl rfl (fun b2 => ?_))
  refine ExL.pures 2 rfl ?_
  refine ExL.nil ?_
  refine Ex.regSeq (ExL.pures 1 rfl ?_)
  refine ExL.free (fr_loadN rfl rfl rfl rfl rfl (SegO.whole (i := 1) rfl)) rfl rfl rfl ?_
  refine ExL.op rfl (op_ret rfl rfl rfl (c_l01Step s (by assumption) _ _ a (by assumption) (by assumption) (by assumption) 1 (by omega)) (Reads.get (Reads.old hs)) rfl rfl (fun x3 hx3 => ?_))
  refine ExL.pures 3 rfl ?_
  refine ExL.op rfl (op_storeC (i := 0) rfl rfl rfl rfl rfl rfl rfl rfl rfl rfl ?_)
  refine ExL.pures 2 rfl ?_
  refine ExL.nil ?_
  refine Ex.ret ?_
  refine RetQ.mk () rfl (.cell rfl (.many rfl rfl rfl (SegO.whole (i := 0) rfl)) (.tmp rfl (.tmp rfl .nil))) (rfl) [] (rfl) rfl (trivial)
theorem e_21 : Enters Tryz.prog 21 := Enters.of Tryz.func21 rfl
theorem c_iStepDown (s : List Int) (hv : validStack s = true) (As : Option Addr) (cs : Nat) (a : Dig) (ha : Nums 255 a.l) (hd : validDig s a.l = true) (hu : Nums 255 s) : Ret Tryz.prog 21 [.slice As s.length cs, .agg (encD a).toArray] (fun w => Rd w As (s.flatMap (eI .u8))) (fun x : Unit => .tuple #[.agg (encD (addD s a (-1))).toArray, .int .i64 (movedL a.l (addD s a (-1)).l s.length), .int .i64 0]) (fun x => []) (fun x => True) := by
  refine Ret.of e_21 Tryz.func21 rfl Tryz.ntmps21 rfl rfl (fun w hpre => ?_)
  have hs := hpre.base
  have hS := stk hv
  have h8 := hS.len8
  have hD := digOk h8 ha hd
  have hn : s.length ≤ a.l.length := by rw [dig_len]; omega
  have hm0 : maxLen = 9223372036854775807 := rfl
  refine Ex.regSeq (ExL.pures 0 rfl ?_)
  refine ExL.op rfl (op_box rfl rfl rfl rfl rfl (fun b1 => ?_))
  refine ExL.op rfl (op_alloc rfl rfl rfl rfl rfl (fun b2 => ?_))
  refine ExL.pures 2 rfl ?_
  refine ExL.nil ?_
  refine Ex.regSeq (ExL.pures 1 rfl ?_)
  refine ExL.free (fr_loadN rfl rfl rfl rfl rfl (SegO.whole (i := 1) rfl)) rfl rfl rfl ?_
  refine ExL.op rfl (op_ret rfl rfl rfl (c_stepped s (by assumption) _ _ a (by assumption) (by assumption) (by assumption) (-1) (by omega)) (Reads.get (Reads.old hs)) rfl rfl (fun x3 hx3 => ?_))
  refine ExL.pures 3 rfl ?_
  refine ExL.op rfl (op_storeC (i := 0) rfl rfl rfl rfl rfl rfl rfl rfl rfl rfl ?_)
  refine ExL.pures 2 rfl ?_
  refine ExL.nil ?_
  refine Ex.ret ?_
  refine RetQ.mk () rfl (.cell rfl (.many rfl rfl rfl (SegO.whole (i := 0) rfl)) (.tmp rfl (.tmp rfl .nil))) (rfl) [] (rfl) rfl (trivial)
theorem e_22 : Enters Tryz.prog 22 := Enters.of Tryz.func22 rfl
theorem c_iComplement (s : List Int) (hv : validStack s = true) (As : Option Addr) (cs : Nat) (a : Dig) (ha : Nums 255 a.l) (hd : validDig s a.l = true) (hu : Nums 255 s) : Ret Tryz.prog 22 [.slice As s.length cs, .agg (encD a).toArray] (fun w => Rd w As (s.flatMap (eI .u8))) (fun x : Unit => .tuple #[.agg (encD (compD s a)).toArray, .int .i64 0]) (fun x => []) (fun x => True) := by
  refine Ret.of e_22 Tryz.func22 rfl Tryz.ntmps22 rfl rfl (fun w hpre => ?_)
  have hs := hpre.base
  have hS := stk hv
  have h8 := hS.len8
  have hD := digOk h8 ha hd
  have hn : s.length ≤ a.l.length := by rw [dig_len]; omega
  have hm0 : maxLen = 9223372036854775807 := rfl
  have hcl := compL_len s a.l
  have hcm : (compL s a.l).length = a.l.length := by rw [hcl]; rfl
  refine Ex.regSeq (ExL.pures 0 rfl ?_)
  refine ExL.op rfl (op_box rfl rfl rfl rfl rfl (fun b1 => ?_))
  refine ExL.op rfl (op_alloc rfl rfl rfl rfl rfl (fun b2 => ?_))
  refine ExL.pures 1 rfl ?_
  refine ExL.nil ?_
  refine Ex.seq ?_
  refine Ex.regSeq (ExL.pures 1 rfl ?_)
  refine ExL.free (fr_loadN rfl rfl rfl rfl rfl (SegO.whole (i := 1) rfl)) rfl rfl rfl ?_
  refine ExL.op rfl (op_ret rfl rfl rfl (c_iValidDigits s (by assumption) _ _ (by omega) a (by assumption)) (Reads.get (Reads.old hs)) rfl rfl (fun x3 hx3 => ?_))
  refine ExL.pures 1 rfl ?_
  refine ExL.nil ?_
  refine Ex.cond rfl (fun hb4 => ?_) (fun hb4 => ?_)
  · replace hb4 := nb_t hb4
    refine Ex.regSeq (ExL.pures 0 rfl ?_)
    refine ExL.free (fr_build rfl rfl rfl rfl) rfl rfl rfl ?_
    refine ExL.op rfl (op_storeC (i := 0) rfl rfl rfl rfl rfl rfl rfl rfl rfl rfl ?_)
    refine ExL.pures 1 rfl ?_
    refine ExL.nil ?_
    refine Ex.ret ?_
    refine RetQ.mk () rfl (.cell rfl (.many rfl rfl rfl (SegO.whole (i := 0) rfl)) (.tmp rfl .nil)) ((by first | (exfalso; simp_all; done) | rfl)) [] (rfl) rfl (trivial)
  · replace hb4 := nb_f hb4
    refine Ex.skip ?_
    refine Ex.seq ?_
    refine Ex.regSeq (ExL.pures 3 rfl ?_)
    refine ExL.nil ?_
    refine Ex.block ?_
    refine Ex.loopK (X := Nat) (fun k => [(15, .int .i64 k)]) (fun k => [.blk b1 ((over (compL s a.l) a.l k).flatMap (eI .u8)) 30]) (fun k => k ≤ s.length) (fun k => s.length - k) 0 [(3, _), (4, _), (5, _), (13, _), (14, _)] [_] 2 [1, 0] ⟨rfl, trivial⟩ ⟨rfl, rfl, rfl, rfl, rfl, trivial⟩ (pkB (by rw [over_zero]; rfl)) rfl (Nat.zero_le _) (fun k hI => ?_)
    have hI : k ≤ s.length := hI
    refine Ex.regSeq (ExL.pures 0 rfl ?_)
    refine ExL.lss rfl rfl rfl rfl rfl rfl (fun h5 => ?_) (fun h5 => ?_)
    · refine ExL.nil ?_
      refine Ex.seq ?_
      refine Ex.cond_t rfl ?_
      refine Ex.skip ?_
      refine Ex.seq ?_
      refine Ex.block ?_
      have hkl : k < s.length := by omega
      have hb := hS.bases k hkl
      have hx := hD k hkl
      have hol : (over (compL s a.l) a.l k).length = 8 := by rw [over_len hcm]; rfl
      have hov : (over (compL s a.l) a.l k).getD k 0 = a.l.getD k 0 := over_at hcm (by rw [dig_len]; omega) 0
      have hcv : (compL s a.l).getD k 0 = s.getD k 0 - 1 - a.l.getD k 0 := by rw [compL_at (by omega), if_pos hkl]
      refine Ex.regSeq (ExL.pures 1 rfl ?_)
      refine ExL.free (fr_indexAddrF (Reads.old hs) (eI_len .u8) rfl rfl rfl rfl rfl rfl (by omega)) rfl rfl rfl ?_
      refine ExL.free (fr_load rfl rfl rfl rfl (by first | exact cellN (Reads.old hs) (eI_len .u8) 0 0 rfl (by omega) rfl | exact cellF (Reads.old hs) (eI_len .u8) 0 0 rfl (by omega) rfl)) rfl rfl rfl ?_
      refine ExL.pures 2 rfl ?_
      refine ExL.nil ?_
      refine Ex.region (ExL.pures 2 rfl ?_)
      refine ExL.free (fr_subZ rfl rfl rfl (by omega)) rfl rfl rfl ?_
      refine ExL.pures 1 rfl ?_
      refine ExL.free (fr_indexAddr_b (sz := 1) rfl rfl rfl rfl rfl (by omega)) rfl rfl rfl ?_
      refine ExL.free (fr_load rfl rfl rfl rfl (CellO.blk (i := 0) rfl (blkG (eI_len .u8) 0 rfl (by omega) rfl))) rfl rfl rfl ?_
      refine ExL.free (fr_subZ rfl rfl rfl (by omega)) rfl rfl rfl ?_
      refine ExL.free (fr_indexAddr_b (sz := 1) rfl rfl rfl rfl rfl (by omega)) rfl rfl rfl ?_
      refine ExL.op rfl (op_store (i := 0) rfl rfl rfl rfl rfl rfl rfl rfl (room (eI_len .u8) (k := k) (by rw [over_len hcm]; have := dig_len a; omega) (by simp) rfl) rfl ?_)
      refine ExL.nil ?_
      refine Ex.region (ExL.pures 0 rfl ?_)
      refine ExL.free (by first | exact fr_add64 rfl rfl rfl (by omega) | exact fr_add rfl rfl rfl) rfl rfl rfl ?_
      refine ExL.pures 1 rfl ?_
      refine ExL.nil ?_
      refine Hand.mk (k + 1) 2 [0, 1] ⟨rfl, trivial⟩ ⟨rfl, rfl, rfl, rfl, rfl, trivial⟩ (pkB (over_put (eI_len .u8) 0 hcm (by rw [dig_len]; omega) (by simp) (by rw [hcv, ← hov]; rfl))) rfl (by omega) (by omega)
    · refine ExL.nil ?_
      refine Ex.seq ?_
      refine Ex.cond_f rfl ?_
      refine Ex.exit ?_
      obtain rfl : k = s.length := by omega
      have hoe := over_comp (a := a) hS
      rw [hoe]
      refine Ex.regSeq (ExL.pures 0 rfl ?_)
      refine ExL.free (fr_loadN rfl rfl rfl rfl rfl (SegO.whole (i := 0) rfl)) rfl rfl rfl ?_
      refine ExL.op rfl (op_storeC (i := 1) rfl rfl rfl rfl rfl rfl rfl rfl rfl rfl ?_)
      refine ExL.pures 1 rfl ?_
      refine ExL.nil ?_
      refine Ex.ret ?_
      refine RetQ.mk () rfl (.cell rfl (.many rfl rfl rfl (SegO.whole (i := 1) rfl)) (.tmp rfl .nil)) ((by first | (exfalso; simp_all; done) | rfl)) [] (rfl) rfl (trivial)
theorem e_23 : Enters Tryz.prog 23 := Enters.of Tryz.func23 rfl
theorem c_sComplement (s : List Int) (hv : validStack s = true) (As : Option Addr) (cs : Nat) (a : Dig) (ha : Nums 255 a.l) (hd : validDig s a.l = true) (hu : Nums 255 s) : Ret Tryz.prog 23 [.slice As s.length cs, .agg (encD a).toArray] (fun w => Rd w As (s.flatMap (eI .u8))) (fun x : Unit => .tuple #[.agg (encD (compD s a)).toArray, .int .i64 0]) (fun x => []) (fun x => True) := by
  refine Ret.of e_23 Tryz.func23 rfl Tryz.ntmps23 rfl rfl (fun w hpre => ?_)
  have hs := hpre.base
  have hS := stk hv
  have h8 := hS.len8
  have hD := digOk h8 ha hd
  have hn : s.length ≤ a.l.length := by rw [dig_len]; omega
  have hm0 : maxLen = 9223372036854775807 := rfl
  have hcl := compL_len s a.l
  have hcm : (compL s a.l).length = a.l.length := by rw [hcl]; rfl
  refine Ex.regSeq (ExL.pures 0 rfl ?_)
  refine ExL.op rfl (op_box rfl rfl rfl rfl rfl (fun b1 => ?_))
  refine ExL.op rfl (op_alloc rfl rfl rfl rfl rfl (fun b2 => ?_))
  refine ExL.pures 1 rfl ?_
  refine ExL.nil ?_
  refine Ex.seq ?_
  refine Ex.regSeq (ExL.pures 1 rfl ?_)
  refine ExL.free (fr_loadN rfl rfl rfl rfl rfl (SegO.whole (i := 1) rfl)) rfl rfl rfl ?_
  refine ExL.op rfl (op_ret rfl rfl rfl (c_sValidDigits s (by assumption) _ _ (by omega) a (by assumption)) (Reads.get (Reads.old hs)) rfl rfl (fun x3 hx3 => ?_))
  refine ExL.pures 1 rfl ?_
  refine ExL.nil ?_
  refine Ex.cond rfl (fun hb4 => ?_) (fun hb4 => ?_)
  · replace hb4 := nb_t hb4
    refine Ex.regSeq (ExL.pures 0 rfl ?_)
    refine ExL.free (fr_build rfl rfl rfl rfl) rfl rfl rfl ?_
    refine ExL.op rfl (op_storeC (i := 0) rfl rfl rfl rfl rfl rfl rfl rfl rfl rfl ?_)
    refine ExL.pures 1 rfl ?_
    refine ExL.nil ?_
    refine Ex.ret ?_
    refine RetQ.mk () rfl (.cell rfl (.many rfl rfl rfl (SegO.whole (i := 0) rfl)) (.tmp rfl .nil)) ((by first | (exfalso; simp_all; done) | rfl)) [] (rfl) rfl (trivial)
  · replace hb4 := nb_f hb4
    refine Ex.skip ?_
    refine Ex.seq ?_
    refine Ex.regSeq (ExL.pures 1 rfl ?_)
    refine ExL.nil ?_
    refine Ex.block ?_
    refine Ex.loopK (X := Nat) (fun k => [(6, .int .i64 k)]) (fun k => [.blk b1 ((over (compL s a.l) a.l k).flatMap (eI .u8)) 30]) (fun k => k ≤ s.length) (fun k => s.length - k) 0 [(0, _), (3, _), (4, _), (5, _)] [_] 2 [1, 0] ⟨rfl, trivial⟩ ⟨rfl, rfl, rfl, rfl, trivial⟩ (pkB (by rw [over_zero]; rfl)) rfl (Nat.zero_le _) (fun k hI => ?_)
    have hI : k ≤ s.length := hI
    refine Ex.seq ?_
    refine Ex.regSeq (ExL.pures 3 rfl ?_)
    refine ExL.lss rfl rfl rfl rfl rfl rfl (fun h5 => ?_) (fun h5 => ?_)
    · refine ExL.nil ?_
      refine Ex.cond_t rfl ?_
      refine Ex.skip ?_
      refine Ex.seq ?_
      refine Ex.block ?_
      have hkl : k < s.length := by omega
      have hb := hS.bases k hkl
      have hx := hD k hkl
      have hol : (over (compL s a.l) a.l k).length = 8 := by rw [over_len hcm]; rfl
      have hov : (over (compL s a.l) a.l k).getD k 0 = a.l.getD k 0 := over_at hcm (by rw [dig_len]; omega) 0
      have hcv : (compL s a.l).getD k 0 = s.getD k 0 - 1 - a.l.getD k 0 := by rw [compL_at (by omega), if_pos hkl]
      refine Ex.drawM rfl ?_
      refine ExD.take (i := 0) rfl (by kernel_rfl) (pureVal_ok rfl) ((List.Sublist.refl _)) rfl rfl rfl ?_
      refine ExD.take (i := 1) rfl (by kernel_rfl) (pureVal_ok rfl) ((List.Sublist.refl _)) rfl rfl rfl ?_
      refine ExD.take (i := 2) rfl (by kernel_rfl) (pureVal_ok rfl) ((List.Sublist.refl _)) rfl rfl rfl ?_
      refine ExD.take (i := 3) rfl (by kernel_rfl) (fr_indexAddrF (Reads.old hs) (eI_len .u8) rfl rfl rfl rfl rfl rfl (by omega)) ((List.Sublist.refl _)) rfl rfl rfl ?_
      refine ExD.take (i := 4) rfl (by kernel_rfl) (fr_load rfl rfl rfl rfl (by first | exact cellN (Reads.old hs) (eI_len .u8) 0 0 rfl (by omega) rfl | exact cellF (Reads.old hs) (eI_len .u8) 0 0 rfl (by omega) rfl)) ((List.Sublist.refl _)) rfl rfl rfl ?_
      refine ExD.take (i := 5) rfl (by kernel_rfl) (fr_subZ rfl rfl rfl (by omega)) ((List.Sublist.refl _)) rfl rfl rfl ?_
      refine ExD.take (i := 6) rfl (by kernel_rfl) (pureVal_ok rfl) ((List.Sublist.refl _)) rfl rfl rfl ?_
      refine ExD.take (i := 7) rfl (by kernel_rfl) (fr_indexAddr_b (sz := 1) rfl rfl rfl rfl rfl (by omega)) ((List.Sublist.refl _)) rfl rfl rfl ?_
      refine ExD.take (i := 8) rfl (by kernel_rfl) (fr_load rfl rfl rfl rfl (CellO.blk (i := 0) rfl (blkG (eI_len .u8) 0 rfl (by omega) rfl))) ((List.Sublist.refl _)) rfl rfl rfl ?_
      refine ExD.take (i := 9) rfl (by kernel_rfl) (fr_subZ rfl rfl rfl (by omega)) ((List.Sublist.refl _)) rfl rfl rfl ?_
      refine ExD.take (i := 10) rfl (by kernel_rfl) (fr_indexAddr_b (sz := 1) rfl rfl rfl rfl rfl (by omega)) ((List.Sublist.refl _)) rfl rfl rfl ?_
      refine ExD.last (i := 11) rfl (by kernel_rfl) (by kernel_rfl) rfl (op_store (i := 0) rfl rfl rfl rfl rfl rfl rfl rfl (room (eI_len .u8) (k := k) (by rw [over_len hcm]; have := dig_len a; omega) (by simp) rfl) rfl ?_)
      refine ExD.done (by kernel_rfl) ?_
      refine Ex.region (ExL.pures 1 rfl ?_)
      refine ExL.free (by first | exact fr_add64 rfl rfl rfl (by omega) | exact fr_add rfl rfl rfl) rfl rfl rfl ?_
      refine ExL.pures 1 rfl ?_
      refine ExL.nil ?_
      refine Hand.mk (k + 1) 2 [0, 1] ⟨rfl, trivial⟩ ⟨rfl, rfl, rfl, rfl, trivial⟩ (pkB (over_put (eI_len .u8) 0 hcm (by rw [dig_len]; omega) (by simp) (by rw [hcv, ← hov]; rfl))) rfl (by omega) (by omega)
    · refine ExL.nil ?_
      refine Ex.cond_f rfl ?_
      refine Ex.exit ?_
      obtain rfl : k = s.length := by omega
      have hoe := over_comp (a := a) hS
      rw [hoe]
      refine Ex.regSeq (ExL.pures 0 rfl ?_)
      refine ExL.free (fr_loadN rfl rfl rfl rfl rfl (SegO.whole (i := 0) rfl)) rfl rfl rfl ?_
      refine ExL.op rfl (op_storeC (i := 1) rfl rfl rfl rfl rfl rfl rfl rfl rfl rfl ?_)
      refine ExL.pures 1 rfl ?_
      refine ExL.nil ?_
      refine Ex.ret ?_
      refine RetQ.mk () rfl (.cell rfl (.many rfl rfl rfl (SegO.whole (i := 1) rfl)) (.tmp rfl .nil)) ((by first | (exfalso; simp_all; done) | rfl)) [] (rfl) rfl (trivial)
theorem e_54 : Enters Tryz.prog 54 := Enters.of Tryz.func54 rfl
theorem c_hasWheel (s : List Int) (As : Option Addr) (cs : Nat) (hls : s.length ≤ maxLen) (k : Nat) (hk : k < s.length) : Ret Tryz.prog 54 [.slice As s.length cs, .int .i64 (k : Int)] (fun w => Rd w As (s.flatMap (eI .u8))) (fun x : Unit => .bool true) (fun x => []) (fun x => True) := by
  refine Ret.of e_54 Tryz.func54 rfl Tryz.ntmps54 rfl rfl (fun w hpre => ?_)
  have hs := hpre.base
  have hm0 : maxLen = 9223372036854775807 := rfl
  refine Ex.regSeq (ExL.pures 1 rfl ?_)
  refine ExL.nil ?_
  refine Ex.regSeq (ExL.pures 2 rfl ?_)
  refine ExL.op rfl (op_ret rfl rfl rfl (c_wheels _ _ _) (fun _ _ => trivial) rfl rfl (fun x1 hx1 => ?_))
  refine ExL.free (by first | exact fr_sub64 rfl rfl rfl (by omega) | exact fr_sub rfl rfl rfl) rfl rfl rfl ?_
  refine ExL.op rfl (op_ret rfl rfl rfl (c_within _ _ _) (fun _ _ => trivial) rfl rfl (fun x2 hx2 => ?_))
  refine ExL.pures 1 rfl ?_
  refine ExL.nil ?_
  refine Ex.ret ?_
  refine RetQ.mk () rfl (.tmp rfl .nil) (tB (by simp; omega)) [] (rfl) rfl (trivial)
theorem e_55 : Enters Tryz.prog 55 := Enters.of Tryz.func55 rfl
theorem c_place (s : List Int) (hu : Nums 255 s) (As : Option Addr) (cs : Nat) (hcs : s.length ≤ cs) (hls : s.length ≤ maxLen) (k : Nat) (hk : k ≤ s.length) : Ret Tryz.prog 55 [.slice As s.length cs, .int .i64 (k : Int)] (fun w => Rd w As (s.flatMap (eI .u8))) (fun x : Unit => .int .i64 (size (s.take k))) (fun x => []) (fun x => True) := by
  refine Ret.of e_55 Tryz.func55 rfl Tryz.ntmps55 rfl rfl (fun w hpre => ?_)
  have hs := hpre.base
  have htk : (s.take k).length = k := by rw [List.length_take]; omega
  have ht9 := hs.takeF (eI_len .u8) k
  have hnt := nums_tk hu k
  have hm0 : maxLen = 9223372036854775807 := rfl
  refine Ex.regSeq (ExL.pures 1 rfl ?_)
  refine ExL.nil ?_
  refine Ex.regSeq (ExL.pures 2 rfl ?_)
  refine ExL.free (fr_slice_h (sz := 1) ((s.take k).length) (by omega) rfl rfl rfl rfl rfl (by omega)) rfl rfl rfl ?_
  refine ExL.op rfl (op_ret rfl rfl rfl (c_size _ (by assumption) _ _ (by first | assumption | omega | (unfold maxLen; omega))) (Reads.get (Reads.old ht9)) rfl rfl (fun x1 hx1 => ?_))
  refine ExL.pures 1 rfl ?_
  refine ExL.nil ?_
  refine Ex.ret ?_
  refine RetQ.mk () rfl (.tmp rfl .nil) (rfl) [] (rfl) rfl (trivial)
theorem e_24 : Enters Tryz.prog 24 := Enters.of Tryz.func24 rfl
theorem c_PlaceOf (s : List Int) (hu : Nums 255 s) (As : Option Addr) (cs : Nat) (hcs : s.length ≤ cs) (hls : s.length ≤ maxLen) (k : Nat) (hk : k ≤ s.length) (hv : validStack s = true) (hk2 : k < s.length) : Ret Tryz.prog 24 [.slice As s.length cs, .int .i64 (k : Int)] (fun w => Rd w As (s.flatMap (eI .u8))) (fun x : Unit => .tuple #[.int .i64 (size (s.take k)), .int .i64 0]) (fun x => []) (fun x => True) := by
  refine Ret.of e_24 Tryz.func24 rfl Tryz.ntmps24 rfl rfl (fun w hpre => ?_)
  have hs := hpre.base
  have htk : (s.take k).length = k := by rw [List.length_take]; omega
  have ht9 := hs.takeF (eI_len .u8) k
  have hnt := nums_tk hu k
  have hm0 : maxLen = 9223372036854775807 := rfl
  refine Ex.regSeq (ExL.pures 2 rfl ?_)
  refine ExL.nil ?_
  refine Ex.seq ?_
  refine Ex.block ?_
  refine Ex.regSeq (ExL.pures 1 rfl ?_)
  refine ExL.op rfl (op_ret rfl rfl rfl (c_ValidStack _ (by assumption) _ _ (by first | assumption | omega | (unfold maxLen; omega))) (Reads.get (Reads.old hs)) rfl rfl (fun x1 hx1 => ?_))
  refine ExL.pures 2 rfl ?_
  refine ExL.nil ?_
  refine Ex.cond rfl (fun hb2 => ?_) (fun hb2 => ?_)
  · replace hb2 := nb_t hb2
    refine Ex.regSeq (ExL.pures 2 rfl ?_)
    refine ExL.nil ?_
    refine Ex.ret ?_
    refine RetQ.mk () rfl (.tmp rfl (.tmp rfl .nil)) ((by first | (exfalso; simp_all; done) | rfl)) [] (rfl) rfl (trivial)
  · replace hb2 := nb_f hb2
    refine Ex.regSeq (ExL.pures 2 rfl ?_)
    refine ExL.op rfl (op_ret rfl rfl rfl (c_hasWheel s _ _ (by omega) k (by omega)) (Reads.get (Reads.old hs)) rfl rfl (fun x3 hx3 => ?_))
    refine ExL.pures 2 rfl ?_
    refine ExL.nil ?_
    refine Ex.cond_f rfl ?_
    refine Ex.skip ?_
    refine Ex.regSeq (ExL.pures 2 rfl ?_)
    refine ExL.op rfl (op_ret rfl rfl rfl (c_place s (by assumption) _ _ (by omega) (by omega) k (by omega)) (Reads.get (Reads.old hs)) rfl rfl (fun x4 hx4 => ?_))
    refine ExL.pures 2 rfl ?_
    refine ExL.nil ?_
    refine Ex.ret ?_
    refine RetQ.mk () rfl (.tmp rfl (.tmp rfl .nil)) ((by first | (exfalso; simp_all; done) | rfl)) [] (rfl) rfl (trivial)
theorem c_valueW (s : List Int) (hS : StkW s) (As : Option Addr) (cs : Nat) (a : Dig) (hD : DigOk s a.l) : Ret Tryz.prog 37 [.slice As s.length cs, .agg (encD a).toArray] (fun w => Rd w As (s.flatMap (eI .u8))) (fun x : Unit => .int .i64 (val s a.l)) (fun x => []) (fun x => True) := by
  refine Ret.of e_37 Tryz.func37 rfl Tryz.ntmps37 rfl rfl (fun w hpre => ?_)
  have hs := hpre.base
  have h8 := hS.len8
  have hn : s.length ≤ a.l.length := by rw [dig_len]; omega
  have hm0 : maxLen = 9223372036854775807 := rfl
  refine Ex.regSeq (ExL.pures 0 rfl ?_)
  refine ExL.op rfl (op_box rfl rfl rfl rfl rfl (fun b1 => ?_))
  refine ExL.pures 1 rfl ?_
  refine ExL.nil ?_
  refine Ex.regSeq (ExL.pures 0 rfl ?_)
  refine ExL.op rfl (op_alloc rfl rfl rfl rfl rfl (fun b2 => ?_))
  refine ExL.op rfl (op_storeC (i := 0) rfl rfl rfl rfl rfl rfl rfl rfl rfl rfl ?_)
  refine ExL.nil ?_
  refine ExT.seq ?_
  refine ExT.reg (ExL.pures 1 rfl ?_)
  refine ExL.op rfl (op_ret rfl rfl rfl (c_Back s _ _) (fun _ _ => trivial) rfl rfl (fun x3 hx3 => ?_))
  refine ExL.nil ?_
  refine Ex.rangeK (N := s.length) (encs := fun k => [.int .i64 ((s.length - 1 - k : Nat) : Int), .int .u8 (s.getD (s.length - 1 - k) 0)]) (fun k => [(6, .int .i64 ((s.length - 1 - k : Nat) : Int)), (7, .int .u8 (s.getD (s.length - 1 - k) 0))]) (fun k => [.blk b2 [.int .i64 (val (s.drop (s.length - k)) (a.l.drop (s.length - k)))] 2]) [(3, _), (5, _)] [_] 3 [0, 1, 2] rfl (c_back1 s As cs (by omega) _ _ _ hs) (fun _ => rfl) rfl rfl rfl (by rw [val_end (k := s.length - 0) (by omega)]; rfl) rfl ⟨rfl, rfl, trivial⟩ (fun l k W hk hW => ?_) (fun l k W hk hW => ?_) (fun D W hW => ?_)
  · have hs := hs.keep hW
    refine Ex.regSeq (ExL.pures 1 rfl ?_)
    refine ExL.nil ?_
    refine Ex.region (ExL.pures 1 rfl ?_)
    refine ExL.nil ?_
    exact ⟨rfl, ⟨rfl, rfl, rfl, rfl, trivial⟩, rfl⟩
  · have hs := hs.keep hW
    obtain ⟨j, hj, hj1, hj2⟩ : ∃ j, s.length - 1 - k = j ∧ s.length - k = j + 1 ∧ s.length - (k + 1) = j := ⟨_, rfl, by omega, by omega⟩
    have hjs : j < s.length := by omega
    have hst := val_stepW hS hD hn hjs
    have hb := hS.bases j hjs
    rw [hj, hj1, hj2]
    refine Ex.block ?_
    refine Ex.drawM rfl ?_
    refine ExD.take (i := 0) rfl (by kernel_rfl) (fr_load rfl rfl rfl rfl (CellO.blk (i := 1) rfl rfl)) ((List.Sublist.refl _)) rfl rfl rfl ?_
    refine ExD.take (i := 1) rfl (by kernel_rfl) (pureVal_ok rfl) ((List.Sublist.refl _)) rfl rfl rfl ?_
    refine ExD.take (i := 2) rfl (by kernel_rfl) (by first | exact fr_conv64 rfl rfl rfl rfl (by omega) | exact fr_conv rfl rfl rfl rfl) ((List.Sublist.refl _)) rfl rfl rfl ?_
    refine ExD.take (i := 3) rfl (by kernel_rfl) (by first | exact fr_mul64 rfl rfl rfl (by omega) | exact fr_mul rfl rfl rfl) ((List.Sublist.refl _)) rfl rfl rfl ?_
    refine ExD.take (i := 4) rfl (by kernel_rfl) (pureVal_ok rfl) ((List.Sublist.refl _)) rfl rfl rfl ?_
    refine ExD.take (i := 5) rfl (by kernel_rfl) (fr_indexAddr_b (sz := 1) rfl rfl rfl rfl rfl (by omega)) ((List.Sublist.refl _)) rfl rfl rfl ?_
    refine ExD.take (i := 6) rfl (by kernel_rfl) (fr_load rfl rfl rfl rfl (CellO.blk (i := 2) rfl (blkG (eI_len .u8) 0 rfl (by rw [dig_len]; omega) rfl))) ((List.Sublist.refl _)) rfl rfl rfl ?_
    refine ExD.take (i := 7) rfl (by kernel_rfl) (by first | exact fr_conv64 rfl rfl rfl rfl (by omega) | exact fr_conv rfl rfl rfl rfl) ((List.Sublist.refl _)) rfl rfl rfl ?_
    refine ExD.take (i := 8) rfl (by kernel_rfl) (by first | exact fr_add64 rfl rfl rfl (by omega) | exact fr_add rfl rfl rfl) ((List.Sublist.refl _)) rfl rfl rfl ?_
    refine ExD.last (i := 9) rfl (by kernel_rfl) (by kernel_rfl) rfl (op_storeC (i := 1) rfl rfl rfl rfl rfl rfl rfl rfl rfl rfl ?_)
    refine ExD.done (by kernel_rfl) ?_
    exact ⟨rfl, 3, [0, 1, 2], (by rw [hst.1]; rfl), rfl⟩
  · have hs := hs.keep hW
    rw [Nat.sub_self, List.drop_zero, List.drop_zero]
    refine Ex.regSeq (ExL.pures 0 rfl ?_)
    refine ExL.free (fr_load rfl rfl rfl rfl (CellO.blk (i := 1) rfl rfl)) rfl rfl rfl ?_
    refine ExL.pures 1 rfl ?_
    refine ExL.nil ?_
    refine Ex.ret ?_
    refine ⟨rfl, ?_⟩
    refine RetQ.mk () rfl (.tmp rfl .nil) (rfl) [] (rfl) rfl (trivial)
theorem e_25 : Enters Tryz.prog 25 := Enters.of Tryz.func25 rfl
theorem c_LastOf (s : List Int) (hv : validStack s = true) (As : Option Addr) (cs : Nat) (a : Dig) (ha : Nums 255 a.l) (hd : validDig s a.l = true) (hu : Nums 255 s) (hcs : s.length ≤ cs) (k : Nat) (hk : k ≤ s.length) : Ret Tryz.prog 25 [.slice As s.length cs, .agg (encD a).toArray, .int .i64 (k : Int)] (fun w => Rd w As (s.flatMap (eI .u8))) (fun x : Unit => .tuple #[.int .i64 (val (s.take k) a.l), .int .i64 0]) (fun x => []) (fun x => True) := by
  refine Ret.of e_25 Tryz.func25 rfl Tryz.ntmps25 rfl rfl (fun w hpre => ?_)
  have hs := hpre.base
  have hS := stk hv
  have h8 := hS.len8
  have hD := digOk h8 ha hd
  have hn : s.length ≤ a.l.length := by rw [dig_len]; omega
  have hm0 : maxLen = 9223372036854775807 := rfl
  have htk : (s.take k).length = k := by rw [List.length_take]; omega
  have ht9 := hs.takeF (eI_len .u8) k
  have hnt := nums_tk hu k
  have hW := hS.w k
  have hDk := hD.take k
  refine Ex.regSeq (ExL.pures 0 rfl ?_)
  refine ExL.op rfl (op_box rfl rfl rfl rfl rfl (fun b1 => ?_))
  refine ExL.pures 2 rfl ?_
  refine ExL.nil ?_
  refine Ex.seq ?_
  refine Ex.block ?_
  refine Ex.regSeq (ExL.pures 1 rfl ?_)
  refine ExL.free (fr_loadN rfl rfl rfl rfl rfl (SegO.whole (i := 0) rfl)) rfl rfl rfl ?_
  refine ExL.op rfl (op_ret rfl rfl rfl (c_iValidDigits s (by assumption) _ _ (by omega) a (by assumption)) (Reads.get (Reads.old hs)) rfl rfl (fun x2 hx2 => ?_))
  refine ExL.pures 2 rfl ?_
  refine ExL.nil ?_
  refine Ex.cond rfl (fun hb3 => ?_) (fun hb3 => ?_)
  · replace hb3 := nb_t hb3
    refine Ex.regSeq (ExL.pures 2 rfl ?_)
    refine ExL.nil ?_
    refine Ex.ret ?_
    refine RetQ.mk () rfl (.tmp rfl (.tmp rfl .nil)) ((by first | (exfalso; simp_all; done) | (exfalso; omega) | rfl)) [] (rfl) rfl (trivial)
  · replace hb3 := nb_f hb3
    refine Ex.regSeq (ExL.pures 2 rfl ?_)
    refine ExL.op rfl (op_ret rfl rfl rfl (c_wheels _ _ _) (fun _ _ => trivial) rfl rfl (fun x4 hx4 => ?_))
    refine ExL.op rfl (op_ret rfl rfl rfl (c_within _ _ _) (fun _ _ => trivial) rfl rfl (fun x5 hx5 => ?_))
    refine ExL.pures 2 rfl ?_
    refine ExL.nil ?_
    refine Ex.cond rfl (fun hb6 => ?_) (fun hb6 => ?_)
    · replace hb6 := nd_t hb6
      refine Ex.regSeq (ExL.pures 2 rfl ?_)
      refine ExL.nil ?_
      refine Ex.ret ?_
      refine RetQ.mk () rfl (.tmp rfl (.tmp rfl .nil)) ((by first | (exfalso; simp_all; done) | (exfalso; omega) | rfl)) [] (rfl) rfl (trivial)
    · replace hb6 := nd_f hb6
      refine Ex.skip ?_
      refine Ex.drawSeqM rfl ?_
      refine ExD.take (i := 0) rfl (by kernel_rfl) (pureVal_ok rfl) ((List.Sublist.refl _)) rfl rfl rfl ?_
      refine ExD.take (i := 1) rfl (by kernel_rfl) (pureVal_ok rfl) ((List.Sublist.refl _)) rfl rfl rfl ?_
      refine ExD.take (i := 2) rfl (by kernel_rfl) (fr_slice_h (sz := 1) ((s.take k).length) (by omega) rfl rfl rfl rfl rfl (by omega)) ((List.Sublist.refl _)) rfl rfl rfl ?_
      refine ExD.take (i := 3) rfl (by kernel_rfl) (fr_loadN rfl rfl rfl rfl rfl (SegO.whole (i := 0) rfl)) ((List.Sublist.refl _)) rfl rfl rfl ?_
      refine ExD.op (i := 4) rfl (by kernel_rfl) rfl (op_ret rfl rfl rfl (c_valueW (s.take k) hW _ _ a hDk) (Reads.get (Reads.old ht9)) rfl rfl (fun x7 hx7 => ⟨(List.Sublist.refl _), ?_⟩))
      refine ExD.take (i := 5) rfl (by kernel_rfl) (pureVal_ok rfl) ((List.Sublist.refl _)) rfl rfl rfl ?_
      refine ExD.take (i := 6) rfl (by kernel_rfl) (pureVal_ok rfl) ((List.Sublist.refl _)) rfl rfl rfl ?_
      refine ExD.done (by kernel_rfl) ?_
      refine Ex.ret ?_
      refine RetQ.mk () rfl (.tmp rfl (.tmp rfl .nil)) ((by first | (exfalso; simp_all; done) | (exfalso; omega) | rfl)) [] (rfl) rfl (trivial)
end Go.Proofs.YtidnicdeogdedaaGreatDoor

/- What these functions of the program hand back, each proved by walking its operations. -/
set_option linter.unusedVariables false
set_option linter.unusedSimpArgs false
set_option maxRecDepth 4000
namespace Go.Proofs.YtidnicdeogdedaaGreatDoor
open Go Go.Sx Go.RowKit Go.W Go.Proofs
attribute [local irreducible] Ex ExL ExD Op1 Free RetQ MutQ Reads CellO SegO LoadsAs
theorem e_12 : Enters Tryz.prog 12 := Enters.of Tryz.func12 rfl
theorem c_StackText (s : List Int) (hv : validStack s = true) (hu : Nums 255 s) (As : Option Addr) (cs : Nat) : Ret Tryz.prog 12 [.slice As s.length cs] (fun w => Rd w As (s.flatMap (eI .u8)) ∧ TabO Tryz.prog w) (fun x : Unit => sv (stkT s)) (fun x => []) (fun x => True) := by
  refine Ret.of e_12 Tryz.func12 rfl Tryz.ntmps12 rfl rfl (fun w hpre => ?_)
  have hs := hpre.1.base
  have htab := hpre.2.base
  have hS := stk hv
  have h8 := hS.len8
  have hm0 : maxLen = 9223372036854775807 := rfl
  refine Ex.regSeq (ExL.pures 1 rfl ?_)
  refine ExL.nil ?_
  refine Ex.seq ?_
  refine Ex.regSeq (ExL.pures 1 rfl ?_)
  refine ExL.op rfl (op_ret rfl rfl rfl (c_ValidStack _ (by assumption) _ _ (by first | assumption | omega | (unfold maxLen; omega))) (Reads.get (Reads.old hs)) rfl rfl (fun x1 hx1 => ?_))
  refine ExL.pures 1 rfl ?_
  refine ExL.nil ?_
  refine Ex.cond rfl (fun hb2 => ?_) (fun hb2 => ?_)
  · replace hb2 := nb_t hb2
    exact absurd (hv.symm.trans (by assumption)) (by decide)
  · replace hb2 := nb_f hb2
    refine Ex.skip ?_
    refine Ex.regSeq (ExL.pures 0 rfl ?_)
    refine ExL.op rfl (op_buildSlice (sz := 1) rfl rfl rfl rfl rfl rfl rfl rfl (by decide) rfl rfl rfl (fun r3 => ?_))
    refine ExL.op rfl (op_alloc rfl rfl rfl rfl rfl (fun b4 => ?_))
    refine ExL.op rfl (op_storeC (i := 0) rfl rfl rfl rfl rfl rfl rfl rfl rfl rfl ?_)
    refine ExL.nil ?_
    refine ExT.seq ?_
    refine ExT.reg (ExL.pures 1 rfl ?_)
    refine ExL.op rfl (op_ret rfl rfl rfl (c_Back s _ _) (fun _ _ => trivial) rfl rfl (fun x5 hx5 => ?_))
    refine ExL.nil ?_
    refine Ex.rangeKX (X := Option Addr × Nat) (N := s.length) (encs := fun k => [.int .i64 ((s.length - 1 - k : Nat) : Int), .int .u8 (s.getD (s.length - 1 - k) 0)]) (fun k => [(5, .int .u8 (s.getD (s.length - 1 - k) 0))]) (fun k q => [.blk b4 [.slice q.1 k q.2] 62, .row (.slice q.1 k q.2) 9 1 k ((partsF (stP s) k).flatMap eSt)]) (fun k q => True) ((some ⟨r3, 0, none⟩), 0) [(3, _)] [] 3 [0, 1, 2] rfl (c_back1X s As cs (by have := hS.len8; omega) _ _ _ hs) (fun _ => rfl) rfl rfl rfl (rfl) rfl (trivial) ⟨rfl, trivial⟩ (fun l k W q hk hI hW => ?_) (fun l k W q hk hI hW => ?_) (fun D W q hI hW => ?_)
    · have hs := hs.keep hW
      have htab := htab.keep hW
      refine Ex.region (ExL.pures 1 rfl ?_)
      refine ExL.nil ?_
      exact ⟨rfl, ⟨rfl, rfl, trivial⟩, rfl⟩
    · have hs := hs.keep hW
      have htab := htab.keep hW
      obtain ⟨j, hj⟩ : ∃ j : Nat, s.length - 1 - k = j := ⟨_, rfl⟩
      have hjs : j < s.length := by omega
      rw [hj]
      have hbj := hS.bases j hjs
      have hdp : Lib.itoa (s.getD j 0) = stP s k := by unfold stP; rw [hj]
      have hil := itoa_le (n := s.getD j 0) (by omega)
      refine Ex.block ?_
      refine Ex.drawI [0, 1] rfl rfl ?_
      refine ExD.take (i := 0) rfl (by kernel_rfl) (fr_load rfl rfl rfl rfl (CellO.blk (i := 1) rfl rfl)) ((List.Sublist.cons_cons _ (List.Sublist.cons_cons _ (List.nil_sublist _)))) rfl rfl rfl ?_
      refine ExD.take (i := 1) rfl (by kernel_rfl) (pureVal_ok rfl) ((List.Sublist.cons_cons _ (List.Sublist.cons_cons _ (List.nil_sublist _)))) rfl rfl rfl ?_
      refine ExD.take (i := 2) rfl (by kernel_rfl) (by first | exact fr_conv64 rfl rfl rfl rfl (by omega) | exact fr_conv rfl rfl rfl rfl) ((List.Sublist.cons_cons _ (List.Sublist.cons_cons _ (List.nil_sublist _)))) rfl rfl rfl ?_
      refine ExD.op (i := 3) rfl (by kernel_rfl) rfl (op_ret rfl rfl rfl (c_decimal (s.getD j 0) (by omega)) (fun w hw => TabB.get htab hw) rfl rfl (fun x6 hx6 => ⟨(List.Sublist.cons_cons _ (List.Sublist.cons_cons _ (List.nil_sublist _))), ?_⟩))
      refine ExD.op (i := 4) rfl (by kernel_rfl) rfl (op_buildSlice (sz := 1) rfl rfl rfl rfl rfl rfl rfl rfl (by decide) rfl rfl rfl (fun r7 => ⟨(List.Sublist.cons _ (List.Sublist.cons_cons _ (List.Sublist.cons_cons _ (List.nil_sublist _)))), ?_⟩))
      refine ExD.op (i := 5) rfl (by kernel_rfl) rfl (op_append (sz := 1) (bytes := 16) (i := 3) rfl rfl rfl rfl (Reads.row (i := 0) rfl) rfl (fun e => nomatch e) rfl rfl rfl rfl (by constructor <;> first | omega | (unfold maxLen; omega)) rfl rfl (fun A8 cA8 => ⟨(List.Sublist.cons _ (List.Sublist.cons_cons _ (List.Sublist.cons_cons _ (List.nil_sublist _)))), ?_⟩))
      refine ExD.last (i := 6) rfl (by kernel_rfl) (by kernel_rfl) rfl (op_storeC (i := 2) rfl rfl rfl rfl rfl rfl rfl rfl rfl rfl ?_)
      refine ExD.done (by kernel_rfl) ?_
      exact ⟨rfl, (A8, cA8), 4, [1, 2, 3], trivial, (pk3R (by rw [partsF_s, List.flatMap_append, ← hdp]; rfl)), rfl⟩
    · have hs := hs.keep hW
      have htab := htab.keep hW
      refine Ex.know (row_cap' (i := 2) rfl) (fun hcap => ?_)
      have hpl := partsF_len (stP s) s.length
      refine Ex.regSeq (ExL.pures 0 rfl ?_)
      refine ExL.free (fr_load rfl rfl rfl rfl (CellO.blk (i := 1) rfl rfl)) rfl rfl rfl ?_
      refine ExL.op rfl (op_ret rfl rfl rfl (c_Join (partsF (stP s) s.length) _ hpl _ _ [58] hcap (by omega) (Nat.le_trans (stkT_le hS) (by decide))) (Reads.get (Reads.row (i := 2) rfl)) rfl rfl (fun x10 hx10 => ?_))
      refine ExL.pures 1 rfl ?_
      refine ExL.nil ?_
      refine Ex.ret ?_
      refine ⟨rfl, ?_⟩
      refine RetQ.mk () rfl (.tmp rfl .nil) (rfl) [] (rfl) rfl (trivial)
theorem e_59 : Enters Tryz.prog 59 := Enters.of Tryz.func59 rfl
theorem c_backSR (s : List (List UInt8)) (As : Option Addr) (cs : Nat) (hls : s.length ≤ maxLen) (j b base : Nat) (w0 : World) : IterXR Tryz.prog 59 [.pointer (some ⟨b, 0, none⟩)] base w0 (.blk b [.slice As s.length cs] 62) j (.row (.slice As s.length cs) 9 1 s.length (s.flatMap eSt)) s.length (fun k => [.int .i64 ((s.length - 1 - k : Nat) : Int), sv (s.getD (s.length - 1 - k) [])]) := by
  refine IterXR.of e_59 Tryz.func59 rfl Tryz.ntmps59 rfl rfl (fun w1 l Sf m0 hR hW hY h0 => ?_)
  have hm0 : maxLen = 9223372036854775807 := rfl
  refine Ex.regSeq (ExL.pures 0 rfl ?_)
  refine ExL.free (fr_load rfl rfl rfl rfl (CellO.blk (i := 0) rfl rfl)) rfl rfl rfl ?_
  refine ExL.pures 1 rfl ?_
  refine ExL.free (fr_sub64 rfl rfl rfl (by omega)) rfl rfl rfl ?_
  refine ExL.pures 1 rfl ?_
  refine ExL.nil ?_
  refine Ex.block ?_
  refine Ex.loopK (X := Nat × List Ent) (fun x => [(3, .int .i64 ((s.length : Int) - 1 - x.1))]) (fun x => .blk b [.slice As s.length cs] 62 :: x.2) (fun x => x.1 ≤ s.length ∧ Sf x.1 x.2) (fun x => s.length - x.1) (0, m0) [(0, _), (1, _)] [] 1 [0] ⟨agI (by simp), trivial⟩ ⟨rfl, rfl, trivial⟩ pick_box rfl ⟨Nat.zero_le _, h0⟩ (fun x hI => ?_)
  obtain ⟨hI, hS⟩ : x.1 ≤ s.length ∧ Sf x.1 x.2 := hI
  have hrx : (Ent.blk b [.slice As s.length cs] 62 :: x.2 ++ [])[j + 1]? = some (.row (.slice As s.length cs) 9 1 s.length (s.flatMap eSt)) := by simpa using hR x.1 x.2 hS
  refine Ex.seq ?_
  refine Ex.regSeq (ExL.pures 1 rfl ?_)
  refine ExL.geq rfl rfl rfl rfl rfl rfl (fun h1 => ?_) (fun h1 => ?_)
  · have hk : x.1 < s.length := by omega
    have hj : (s.length : Int) - 1 - x.1 = ((s.length - 1 - x.1 : Nat) : Int) := by omega
    rw [hj]
    refine ExL.nil ?_
    refine Ex.cond_t rfl ?_
    refine Ex.skip ?_
    refine Ex.seq ?_
    refine Ex.block ?_
    refine Ex.regSeq (ExL.pures 2 rfl ?_)
    refine ExL.free (fr_load rfl rfl rfl rfl (CellO.blk (i := 0) rfl rfl)) rfl rfl rfl ?_
    refine ExL.pures 1 rfl ?_
    refine ExL.free (fr_indexAddrF (Reads.row (i := j + 1) hrx) eSt_len rfl rfl rfl rfl rfl rfl (by omega)) rfl rfl rfl ?_
    refine ExL.free (fr_load rfl rfl rfl rfl (cellN (Reads.row (i := j + 1) hrx) eSt_len ([] : List UInt8) 0 rfl (by omega) rfl)) rfl rfl rfl ?_
    refine ExL.yieldX rfl rfl rfl rfl rfl rfl (fun w hw => hY x.1 w x.2 hk hS (by simpa using hw)) ?_
    rintro _ ⟨mk, hS2, rfl⟩
    refine ExL.pures 1 rfl ?_
    refine ExL.nil ?_
    refine Ex.cond_f rfl ?_
    refine Ex.skip ?_
    refine Ex.region (ExL.pures 1 rfl ?_)
    refine ExL.free (fr_sub64 rfl rfl rfl (by omega)) rfl rfl rfl ?_
    refine ExL.pures 1 rfl ?_
    refine ExL.nil ?_
    exact Hand.mk (x.1 + 1, mk) 1 [0] ⟨agI (by show ((s.length - 1 - x.1 : Nat) : Int) - 1 = (s.length : Int) - 1 - ((x.1 + 1 : Nat) : Int); omega), trivial⟩ ⟨rfl, rfl, trivial⟩ pick_box rfl ⟨by dsimp only; omega, hS2⟩ (by dsimp only; omega)
  · refine ExL.nil ?_
    refine Ex.cond_f rfl ?_
    refine Ex.exit ?_
    have hk : x.1 = s.length := by omega
    exact ⟨rfl, x.2, hk ▸ hS, by simp⟩
theorem e_38 : Enters Tryz.prog 38 := Enters.of Tryz.func38 rfl
theorem c_BackS (s : List (List UInt8)) (As : Option Addr) (cs : Nat) : Ret Tryz.prog 38 [.slice As s.length cs] (fun w => True) (fun x : Nat => .func (.func 59) #[] (List.toArray [.pointer (some ⟨x, 0, none⟩)])) (fun x => [.blk x [.slice As s.length cs] 62]) (fun x => True) := by
  refine Ret.of e_38 Tryz.func38 rfl Tryz.ntmps38 rfl rfl (fun w hpre => ?_)
  refine Ex.regSeq (ExL.pures 0 rfl ?_)
  refine ExL.op rfl (op_box rfl rfl rfl rfl rfl (fun b1 => ?_))
  refine ExL.pures 1 rfl ?_
  refine ExL.nil ?_
  refine Ex.regSeq (ExL.pures 0 rfl ?_)
  refine ExL.free (fr_makeFunc rfl rfl rfl) rfl rfl rfl ?_
  refine ExL.pures 1 rfl ?_
  refine ExL.nil ?_
  refine Ex.ret ?_
  refine RetQ.mk _ rfl (.tmp rfl .nil) (rfl) [0] (rfl) rfl (trivial)
theorem c_ParseUint8 (t : List UInt8) (n : Int) (hn : 0 ≤ n) (h : Lib.parseUintB 8 t = .ok n.toNat) (hl : t.length ≤ 1048576) : Ret Tryz.prog 40 [sv t, .int .i64 10, .int .i64 8] (fun w => RdO 2 0 1 w) (fun _ : Unit => .tuple #[.int .u64 n, errV true 0 .nilIface]) (fun _ => []) (fun _ => True) := by
  refine ⟨e_40, fun w hr => ?_⟩
  have hz : (mkB t).size = t.length := rfl
  obtain ⟨u, rfl⟩ := Int.eq_ofNat_of_zero_le hn
  refine (Go.Proofs.Tryz.strconv_ParseUint_10_at8_ok (mkB t) (by omega) u (show Lib.parseUintB 8 t = .ok u by simpa using h) w).mono ?_
  rintro e w' ⟨rfl, hw⟩
  refine ⟨(), trivial, rfl, ?_, by simp, List.Pairwise.nil⟩
  rcases hw with rfl | rfl
  · exact Below.refl _ _
  · exact Lib.bytesWorld_below _ _ _
theorem e_11 : Enters Tryz.prog 11 := Enters.of Tryz.func11 rfl
theorem c_ReadStack (s : List Int) (hv : validStack s = true) (hu : Nums 255 s) : Ret Tryz.prog 11 [sv (stkT s)] (fun w => RdO 2 0 1 w ∧ TabO Tryz.prog w) (fun x : Option Addr × Nat => .tuple #[.slice x.1 s.length x.2, .int .i64 0]) (fun x => [.row (.slice x.1 s.length x.2) 5 1 s.length (s.flatMap (eI .u8))]) (fun x => True) := by
  refine Ret.of e_11 Tryz.func11 rfl Tryz.ntmps11 rfl rfl (fun w hpre => ?_)
  have hrd := hpre.1.base
  have htab := hpre.2.base
  have hS := stk hv
  have h8 := hS.len8
  have htl := stkT_le hS
  have hpn := stk_len hS
  have hm0 : maxLen = 9223372036854775807 := rfl
  refine Ex.regSeq (ExL.pures 0 rfl ?_)
  refine ExL.op rfl (op_alloc rfl rfl rfl rfl rfl (fun b1 => ?_))
  refine ExL.op rfl (op_alloc rfl rfl rfl rfl rfl (fun b2 => ?_))
  refine ExL.nil ?_
  refine Ex.regSeq (ExL.pures 0 rfl ?_)
  refine ExL.op rfl (op_buildSlice (sz := 1) rfl rfl rfl rfl rfl rfl rfl rfl (by decide) rfl rfl rfl (fun r3 => ?_))
  refine ExL.op rfl (op_alloc rfl rfl rfl rfl rfl (fun b4 => ?_))
  refine ExL.op rfl (op_storeC (i := 0) rfl rfl rfl rfl rfl rfl rfl rfl rfl rfl ?_)
  refine ExL.nil ?_
  refine ExT.seq ?_
  refine ExT.reg (ExL.pures 1 rfl ?_)
  refine ExL.op rfl (op_ret rfl rfl rfl (c_Split (stkT s) 58 (by omega)) (fun w hw => RdBs.get hrd hw) rfl rfl (fun x5 hx5 => ?_))
  refine ExL.op rfl (op_ret rfl rfl rfl (c_BackS (splitA 58 [] (stkT s)) _ _) (fun _ _ => trivial) rfl rfl (fun x6 hx6 => ?_))
  refine ExL.nil ?_
  refine Ex.rangeKXR (X := Option Addr × Nat) (N := (splitA 58 [] (stkT s)).length) (encs := fun k => [.int .i64 (((splitA 58 [] (stkT s)).length - 1 - k : Nat) : Int), sv ((splitA 58 [] (stkT s)).getD ((splitA 58 [] (stkT s)).length - 1 - k) [])]) (fun k => [(6, sv ((splitA 58 [] (stkT s)).getD ((splitA 58 [] (stkT s)).length - 1 - k) []))]) (fun k q => [.blk b4 [.slice q.1 k q.2] 24, .row (.slice q.1 k q.2) 5 1 k ((s.take k).flatMap (eI .u8))]) (fun k q => True) ((some ⟨r3, 0, none⟩), 0) [(2, _), (3, _), (4, _)] [_, _, _] 6 [0, 2, 3, 1, 4, 5] rfl (c_backSR (splitA 58 [] (stkT s)) _ _ (by omega) 2 _ _ _) (fun _ _ => rfl) (fun _ => rfl) rfl rfl rfl (rfl) rfl (trivial) ⟨rfl, rfl, rfl, trivial⟩ (fun l k W q hk hI hW => ?_) (fun l k W q hk hI hW => ?_) (fun D W q hI hW => ?_)
  · have hrd := hrd.keep hW
    have htab := htab.keep hW
    refine Ex.region (ExL.pures 1 rfl ?_)
    refine ExL.nil ?_
    exact ⟨rfl, ⟨rfl, rfl, rfl, rfl, trivial⟩, rfl⟩
  · have hrd := hrd.keep hW
    have htab := htab.keep hW
    have hkl : k < s.length := by omega
    rw [show (splitA 58 [] (stkT s)).getD ((splitA 58 [] (stkT s)).length - 1 - k) [] = Lib.itoa (s.getD k 0) from by rw [hpn]; exact stk_at hS hkl]
    have hbk := hS.bases k hkl
    have hp8 := parse_8 (n := s.getD k 0) (by omega) (by omega)
    have hil := itoa_le (n := s.getD k 0) (by omega)
    refine Ex.block ?_
    refine Ex.regSeq (ExL.pures 1 rfl ?_)
    refine ExL.op rfl (op_ret rfl rfl rfl (c_ParseUint8 (Lib.itoa (s.getD k 0)) (s.getD k 0) (by omega) (by assumption) (by omega)) (fun w hw => RdBs.get hrd hw) rfl rfl (fun x7 hx7 => ?_))
    refine ExL.pures 5 rfl ?_
    refine ExL.nil ?_
    refine Ex.seq ?_
    refine Ex.regSeq (ExL.pures 1 rfl ?_)
    refine ExL.free (fr_neq_err rfl rfl rfl rfl) rfl rfl rfl ?_
    refine ExL.nil ?_
    refine Ex.cond_f rfl ?_
    refine Ex.skip ?_
    refine Ex.region (ExL.pures 0 rfl ?_)
    refine ExL.free (fr_load rfl rfl rfl rfl (CellO.blk (i := 1) rfl rfl)) rfl rfl rfl ?_
    refine ExL.pures 1 rfl ?_
    refine ExL.free (by first | exact fr_conv_u8 rfl rfl rfl rfl (by omega) | exact fr_conv rfl rfl rfl rfl) rfl rfl rfl ?_
    refine ExL.op rfl (op_buildSlice (sz := 1) rfl rfl rfl rfl rfl rfl rfl rfl (by decide) rfl rfl rfl (fun r8 => ?_))
    refine ExL.op rfl (op_append (sz := 1) (bytes := 1) (i := 3) rfl rfl rfl rfl (Reads.row (i := 0) rfl) rfl (fun e => nomatch e) rfl rfl rfl rfl (by constructor <;> first | omega | (unfold maxLen; omega)) rfl rfl (fun A9 cA9 => ?_))
    refine ExL.op rfl (op_storeC (i := 2) rfl rfl rfl rfl rfl rfl rfl rfl rfl rfl ?_)
    refine ExL.nil ?_
    exact ⟨rfl, (A9, cA9), 7, [1, 2, 3, 4, 5, 6], trivial, (pk3R (by rw [take_sI hkl, List.flatMap_append]; rfl)), rfl⟩
  · have hrd := hrd.keep hW
    have htab := htab.keep hW
    rw [hpn, List.take_length]
    refine Ex.seq ?_
    refine Ex.regSeq (ExL.pures 0 rfl ?_)
    refine ExL.free (fr_load rfl rfl rfl rfl (CellO.blk (i := 1) rfl rfl)) rfl rfl rfl ?_
    refine ExL.op rfl (op_ret rfl rfl rfl (c_StackText s (by assumption) (by assumption) _ _) (fun w hw => ⟨Reads.get (Reads.row (i := 2) rfl) w hw, TabB.get htab hw⟩) rfl rfl (fun x11 hx11 => ?_))
    refine ExL.pures 1 rfl ?_
    refine ExL.free (fr_neqS (l := (stkT s)) (r := (stkT s)) rfl rfl rfl) rfl rfl rfl ?_
    refine ExL.nil ?_
    refine Ex.cond rfl (fun hb12 => ?_) (fun hb12 => ?_)
    · replace hb12 := nd_t hb12
      exact absurd rfl (by assumption)
    · replace hb12 := nd_f hb12
      refine Ex.skip ?_
      refine Ex.regSeq (ExL.pures 0 rfl ?_)
      refine ExL.free (fr_load rfl rfl rfl rfl (CellO.blk (i := 1) rfl rfl)) rfl rfl rfl ?_
      refine ExL.op rfl (op_storeC (i := 5) rfl rfl rfl rfl rfl rfl rfl rfl rfl rfl ?_)
      refine ExL.op rfl (op_storeC (i := 4) rfl rfl rfl rfl rfl rfl rfl rfl rfl rfl ?_)
      refine ExL.nil ?_
      refine Ex.ret ?_
      refine ⟨rfl, ?_⟩
      refine RetQ.mk (q.1, q.2) rfl (.cell rfl (.one rfl rfl (CellO.blk (i := 5) rfl rfl)) (.cell rfl (.one rfl rfl (CellO.blk (i := 4) rfl rfl)) .nil)) (rfl) [2] (rfl) rfl (trivial)
theorem e_15 : Enters Tryz.prog 15 := Enters.of Tryz.func15 rfl
theorem c_sSameStack (s : List Int) (As : Option Addr) (cs : Nat) (hls : s.length ≤ maxLen) (t : List Int) (At : Option Addr) (ct : Nat) (hlt : t.length ≤ maxLen) : Ret Tryz.prog 15 [.slice As s.length cs, .slice At t.length ct] (fun w => Rd w As (s.flatMap (eI .u8)) ∧ Rd w At (t.flatMap (eI .u8))) (fun x : Unit => .bool (decide (s = t))) (fun x => []) (fun x => True) := by
  refine Ret.of e_15 Tryz.func15 rfl Tryz.ntmps15 rfl rfl (fun w hpre => ?_)
  have hs := hpre.1.base
  have ht := hpre.2.base
  refine Ex.regSeq (ExL.pures 1 rfl ?_)
  refine ExL.nil ?_
  refine Ex.regSeq (ExL.pures 2 rfl ?_)
  refine ExL.op rfl (op_ret rfl rfl rfl (c_l01Same s _ _ (by omega) t _ _ (by omega)) (fun w hw => ⟨Reads.get (Reads.old hs) w hw, Reads.get (Reads.old ht) w hw⟩) rfl rfl (fun x1 hx1 => ?_))
  refine ExL.pures 1 rfl ?_
  refine ExL.nil ?_
  refine Ex.ret ?_
  refine RetQ.mk () rfl (.tmp rfl .nil) (rfl) [] (rfl) rfl (trivial)
end Go.Proofs.YtidnicdeogdedaaGreatDoor

/- What these functions of the program hand back, each proved by walking its operations. -/
set_option linter.unusedVariables false
set_option linter.unusedSimpArgs false
set_option maxRecDepth 4000
namespace Go.Proofs.YtidnicdeogdedaaGreatDoor
open Go Go.Sx Go.RowKit Go.W Go.Proofs
attribute [local irreducible] Ex ExL ExD Op1 Free RetQ MutQ Reads CellO SegO LoadsAs
theorem e_3 : Enters Tryz.prog 3 := Enters.of Tryz.func3 rfl
set_option maxHeartbeats 2000000 in
theorem w_FnStacks (s : List Int) (hus : Nums 255 s) (As : Option Addr) (cs : Nat) (hls : s.length ≤ maxLen) (t : List Int) (hut : Nums 255 t) (At : Option Addr) (ct : Nat) (hlt : t.length ≤ maxLen) : Ret Tryz.prog 3 [.slice As s.length cs, .slice At t.length ct] (fun w => (Rd w As (s.flatMap (eI .u8)) ∧ Rd w At (t.flatMap (eI .u8))) ∧ RdO 2 0 1 w ∧ TabO Tryz.prog w) (fun x : Unit => .bool true) (fun x => []) (fun x => True) := by
  refine Ret.of e_3 Tryz.func3 rfl Tryz.ntmps3 rfl rfl (fun w hpre => ?_)
  have hs := hpre.1.1.base
  have ht := hpre.1.2.base
  have hrd := hpre.2.1
  have htab := hpre.2.2
  have hm0 : maxLen = 9223372036854775807 := rfl
  refine Ex.regSeq (ExL.pures 1 rfl ?_)
  refine ExL.nil ?_
  refine Ex.seq ?_
  refine Ex.regSeq (ExL.pures 1 rfl ?_)
  refine ExL.op rfl (op_ret rfl rfl rfl (c_f6big s _ _ (by omega)) (fun _ _ => trivial) rfl rfl (fun x1 hx1 => ?_))
  refine ExL.pures 1 rfl ?_
  refine ExL.bool (d := 45) rfl (fun hb2 => ?_) (fun hb2 => ?_)
  · replace hb2 := of_decide_eq_true hb2
    refine ExL.pures 3 rfl ?_
    refine ExL.nil ?_
    refine Ex.cond_t rfl ?_
    refine Ex.regSeq (ExL.pures 1 rfl ?_)
    refine ExL.nil ?_
    refine Ex.ret ?_
    refine RetQ.mk () rfl (.tmp rfl .nil) (tB (by first | rfl | exact absurd rfl (by assumption) | exact absurd (hvs.symm.trans (by assumption)) (by decide) | exact absurd (hvd9.symm.trans (by assumption)) (by decide))) [] (rfl) rfl (trivial)
  · replace hb2 := of_decide_eq_false hb2
    refine ExL.pures 1 rfl ?_
    refine ExL.op rfl (op_ret rfl rfl rfl (c_f6big t _ _ (by omega)) (fun _ _ => trivial) rfl rfl (fun x3 hx3 => ?_))
    refine ExL.pures 1 rfl ?_
    refine ExL.nil ?_
    refine Ex.cond rfl (fun hb4 => ?_) (fun hb4 => ?_)
    · replace hb4 := of_decide_eq_true hb4
      refine Ex.regSeq (ExL.pures 1 rfl ?_)
      refine ExL.nil ?_
      refine Ex.ret ?_
      refine RetQ.mk () rfl (.tmp rfl .nil) (tB (by first | rfl | exact absurd rfl (by assumption) | exact absurd (hvs.symm.trans (by assumption)) (by decide) | exact absurd (hvd9.symm.trans (by assumption)) (by decide))) [] (rfl) rfl (trivial)
    · replace hb4 := of_decide_eq_false hb4
      refine Ex.skip ?_
      refine Ex.regSeq (ExL.pures 1 rfl ?_)
      refine ExL.op rfl (op_ret rfl rfl rfl (c_P6Stack s _ _ (by omega) (by assumption)) (Reads.get (Reads.old hs)) rfl rfl (fun x5 hx5 => ?_))
      have hSx5 := hx5
      have hux5 := hSx5.nums
      have hvx5 := hSx5.valid
      have hzx5 := hSx5.size
      have hlx5 := hSx5.2
      refine ExL.pures 1 rfl ?_
      refine ExL.nil ?_
      refine Ex.know (row_cap' (i := 0) rfl) (fun hcap => ?_)
      have hvs := hvx5
      have hSk := stk hvs
      have hz1 := hzx5.1
      refine Ex.regSeq (ExL.pures 2 rfl ?_)
      refine ExL.op rfl (op_ret rfl rfl rfl (c_P6Value t _ _ (by omega) (by assumption) x5.2 (by assumption) (by assumption) _ _) (fun w hw => ⟨Reads.get (Reads.old ht) w hw, Reads.get (Reads.row (i := 0) rfl) w hw⟩) rfl rfl (fun x6 hx6 => ?_))
      refine ExL.pures 1 rfl ?_
      refine ExL.nil ?_
      have hst := stl hSk (v := x6) hx6
      have hvr := hx6
      have hdn := hst.num
      have hdo := hst.ok
      have hcn := hst.cnum
      have hco := hst.cok
      have hun := hst.up
      have huo := hst.upok
      have hnl : x5.2.length ≤ (dig (digs x5.2 x6)).l.length := by rw [dig_len]; omega
      have hDk := digOk hSk.len8 hdn hdo
      have hvd9 : (validStack x5.2 && validDig x5.2 (dig (digs x5.2 x6)).l) = true := by rw [hvs, hdo]; rfl
      have htx9 : (digTx x5.2 (dig (digs x5.2 x6)).l).length ≤ 24 := by rw [digTx_t hvd9]; exact digT_le hSk hDk
      refine Ex.regSeq (ExL.pures 1 rfl ?_)
      refine ExL.op rfl (op_ret rfl rfl rfl (c_iSizeOf x5.2 (by assumption) (by assumption) _ _) (Reads.get (Reads.row (i := 0) rfl)) rfl rfl (fun x7 hx7 => ?_))
      refine ExL.pures 5 rfl ?_
      refine ExL.nil ?_
      refine Ex.regSeq (ExL.pures 2 rfl ?_)
      refine ExL.op rfl (op_ret rfl rfl rfl (c_iDigitsOf x5.2 (by assumption) (by assumption) _ _ x6 (by omega)) (Reads.get (Reads.row (i := 0) rfl)) rfl rfl (fun x8 hx8 => ?_))
      refine ExL.pures 3 rfl ?_
      refine ExL.op rfl (op_alloc rfl rfl rfl rfl rfl (fun b9 => ?_))
      refine ExL.op rfl (op_storeC (i := 0) rfl rfl rfl rfl rfl rfl rfl rfl rfl rfl ?_)
      refine ExL.pures 1 rfl ?_
      refine ExL.nil ?_
      refine Ex.regSeq (ExL.pures 2 rfl ?_)
      refine ExL.op rfl (op_ret rfl rfl rfl (c_DigitsOf x5.2 (by assumption) (by assumption) _ _ x6 (by omega)) (Reads.get (Reads.row (i := 1) rfl)) rfl rfl (fun x10 hx10 => ?_))
      refine ExL.pures 3 rfl ?_
      refine ExL.op rfl (op_alloc rfl rfl rfl rfl rfl (fun b11 => ?_))
      refine ExL.op rfl (op_storeC (i := 0) rfl rfl rfl rfl rfl rfl rfl rfl rfl rfl ?_)
      refine ExL.pures 1 rfl ?_
      refine ExL.nil ?_
      refine Ex.regSeq (ExL.pures 1 rfl ?_)
      refine ExL.free (fr_loadN rfl rfl rfl rfl rfl (SegO.whole (i := 0) rfl)) rfl rfl rfl ?_
      refine ExL.op rfl (op_ret rfl rfl rfl (c_ValueOf x5.2 (by assumption) (by assumption) _ _ (dig (digs x5.2 x6)) (by assumption) (by assumption)) (Reads.get (Reads.row (i := 2) rfl)) rfl rfl (fun x12 hx12 => ?_))
      refine ExL.pures 5 rfl ?_
      refine ExL.nil ?_
      refine Ex.regSeq (ExL.pures 1 rfl ?_)
      refine ExL.op rfl (op_ret rfl rfl rfl (c_StackText x5.2 (by assumption) (by assumption) _ _) (fun w hw => ⟨Reads.get (Reads.row (i := 2) rfl) w hw, TabO.keep htab hw⟩) rfl rfl (fun x13 hx13 => ?_))
      refine ExL.op rfl (op_ret rfl rfl rfl (c_ReadStack x5.2 (by assumption) (by assumption)) (fun w hw => ⟨RdO.keep hrd hw, TabO.keep htab hw⟩) rfl rfl (fun x14 hx14 => ?_))
      refine ExL.pures 5 rfl ?_
      refine ExL.nil ?_
      refine Ex.regSeq (ExL.pures 2 rfl ?_)
      refine ExL.free (fr_loadN rfl rfl rfl rfl rfl (SegO.whole (i := 1) rfl)) rfl rfl rfl ?_
      refine ExL.op rfl (op_ret rfl rfl rfl (c_iDigitsText x5.2 (by assumption) _ _ (by omega) (dig (digs x5.2 x6)) (by assumption)) (fun w hw => ⟨Reads.get (Reads.row (i := 3) rfl) w hw, TabO.keep htab hw⟩) rfl rfl (fun x15 hx15 => ?_))
      refine ExL.op rfl (op_ret rfl rfl rfl (c_iReadDigits x5.2 (by assumption) _ _ (by omega) (digTx x5.2 (dig (digs x5.2 x6)).l) (by omega)) (fun w hw => ⟨Reads.get (Reads.row (i := 3) rfl) w hw, RdO.keep hrd hw, TabO.keep htab hw⟩) rfl rfl (fun x16 hx16 => ?_))
      refine ExL.pures 3 rfl ?_
      refine ExL.op rfl (op_alloc rfl rfl rfl rfl rfl (fun b17 => ?_))
      refine ExL.op rfl (op_storeC (i := 0) rfl rfl rfl rfl rfl rfl rfl rfl rfl rfl ?_)
      refine ExL.pures 1 rfl ?_
      refine ExL.nil ?_
      refine Ex.seq ?_
      obtain ⟨hrb1, hrb2⟩ := rdDig_back hvs hdn hdo hx16
      refine Ex.regSeq (ExL.pures 1 rfl ?_)
      refine ExL.free (fr_neq_f rfl rfl rfl (fun h => h rfl)) rfl rfl rfl ?_
      refine ExL.pures 3 rfl ?_
      refine ExL.free (fr_geq_f rfl rfl rfl (by omega)) rfl rfl rfl ?_
      refine ExL.pures 4 rfl ?_
      refine ExL.free (fr_neq_f rfl rfl rfl (fun h => h rfl)) rfl rfl rfl ?_
      refine ExL.pures 3 rfl ?_
      refine ExL.free (fr_neq_f rfl rfl rfl (fun h => h rfl)) rfl rfl rfl ?_
      refine ExL.pures 2 rfl ?_
      refine ExL.free (fr_loadN rfl rfl rfl rfl rfl (SegO.whole (i := 3) rfl)) rfl rfl rfl ?_
      refine ExL.free (fr_loadN rfl rfl rfl rfl rfl (SegO.whole (i := 2) rfl)) rfl rfl rfl ?_
      refine ExL.free (fr_neq_ints_eq (dig (digs x5.2 x6)).l (dig (digs x5.2 x6)).l (rfl) rfl rfl rfl rfl rfl rfl rfl rfl rfl rfl) rfl rfl rfl ?_
      refine ExL.pures 3 rfl ?_
      refine ExL.free (fr_neq_f rfl rfl rfl (fun h => h rfl)) rfl rfl rfl ?_
      refine ExL.pures 4 rfl ?_
      refine ExL.free (fr_neq_f rfl rfl rfl (fun h9 => h9 hst.val_)) rfl rfl rfl ?_
      refine ExL.pures 3 rfl ?_
      refine ExL.free (fr_neq_f rfl rfl rfl (fun h => h rfl)) rfl rfl rfl ?_
      refine ExL.pures 4 rfl ?_
      refine ExL.op rfl (op_ret rfl rfl rfl (c_sSameStack x5.2 _ _ (by omega) x5.2 _ _ (by omega)) (fun w hw => ⟨Reads.get (Reads.row (i := 1) rfl) w hw, Reads.get (Reads.row (i := 4) rfl) w hw⟩) rfl rfl (fun x18 hx18 => ?_))
      refine ExL.pures 3 rfl ?_
      refine ExL.bool (d := 131) rfl (fun hb19 => ?_) (fun hb19 => ?_)
      · replace hb19 := nd_t hb19
        refine ExL.pures 25 rfl ?_
        refine ExL.nil ?_
        refine Ex.cond_t rfl ?_
        refine Ex.regSeq (ExL.pures 1 rfl ?_)
        refine ExL.nil ?_
        refine Ex.ret ?_
        refine RetQ.mk () rfl (.tmp rfl .nil) (tB (by first | rfl | exact absurd rfl (by assumption) | exact absurd (hvs.symm.trans (by assumption)) (by decide) | exact absurd (hvd9.symm.trans (by assumption)) (by decide))) [] (rfl) rfl (trivial)
      · replace hb19 := nd_f hb19
        refine ExL.pures 2 rfl ?_
        refine ExL.op rfl (op_ret rfl rfl rfl (c_SameStack x5.2 _ _ (by omega) x5.2 _ _ (by omega)) (fun w hw => ⟨Reads.get (Reads.row (i := 1) rfl) w hw, Reads.get (Reads.row (i := 4) rfl) w hw⟩) rfl rfl (fun x20 hx20 => ?_))
        refine ExL.pures 3 rfl ?_
        refine ExL.bool (d := 137) rfl (fun hb21 => ?_) (fun hb21 => ?_)
        · replace hb21 := nd_t hb21
          refine ExL.pures 19 rfl ?_
          refine ExL.nil ?_
          refine Ex.cond_t rfl ?_
          refine Ex.regSeq (ExL.pures 1 rfl ?_)
          refine ExL.nil ?_
          refine Ex.ret ?_
          refine RetQ.mk () rfl (.tmp rfl .nil) (tB (by first | rfl | exact absurd rfl (by assumption) | exact absurd (hvs.symm.trans (by assumption)) (by decide) | exact absurd (hvd9.symm.trans (by assumption)) (by decide))) [] (rfl) rfl (trivial)
        · replace hb21 := nd_f hb21
          refine ExL.pures 1 rfl ?_
          refine ExL.free (fr_neq_f rfl rfl rfl (by rw [hrb2]; exact fun h => h rfl)) rfl rfl rfl ?_
          refine ExL.pures 2 rfl ?_
          refine ExL.free (fr_loadN rfl rfl rfl rfl rfl (SegO.whole (i := 0) rfl)) rfl rfl rfl ?_
          refine ExL.free (fr_loadN rfl rfl rfl rfl rfl (SegO.whole (i := 2) rfl)) rfl rfl rfl ?_
          refine ExL.free (fr_neq_ints_eq x16.1.l (dig (digs x5.2 x6)).l (by rw [hrb1]) rfl rfl rfl rfl rfl rfl rfl rfl rfl rfl) rfl rfl rfl ?_
          refine ExL.pures 3 rfl ?_
          refine ExL.op rfl (op_ret rfl rfl rfl (c_ValidStack _ (by assumption) _ _ (by first | assumption | omega | (unfold maxLen; omega))) (Reads.get (Reads.row (i := 4) rfl)) rfl rfl (fun x22 hx22 => ?_))
          refine ExL.pures 3 rfl ?_
          refine ExL.bool (d := 151) rfl (fun hb23 => ?_) (fun hb23 => ?_)
          · replace hb23 := nb_t hb23
            refine ExL.pures 5 rfl ?_
            refine ExL.nil ?_
            refine Ex.cond_t rfl ?_
            refine Ex.regSeq (ExL.pures 1 rfl ?_)
            refine ExL.nil ?_
            refine Ex.ret ?_
            refine RetQ.mk () rfl (.tmp rfl .nil) (tB (by first | rfl | exact absurd rfl (by assumption) | exact absurd (hvs.symm.trans (by assumption)) (by decide) | exact absurd (hvd9.symm.trans (by assumption)) (by decide))) [] (rfl) rfl (trivial)
          · replace hb23 := nb_f hb23
            refine ExL.pures 1 rfl ?_
            refine ExL.free (fr_loadN rfl rfl rfl rfl rfl (SegO.whole (i := 2) rfl)) rfl rfl rfl ?_
            refine ExL.op rfl (op_ret rfl rfl rfl (c_iValidDigits x5.2 (by assumption) _ _ (by omega) (dig (digs x5.2 x6)) (by assumption)) (Reads.get (Reads.row (i := 4) rfl)) rfl rfl (fun x24 hx24 => ?_))
            refine ExL.pures 2 rfl ?_
            refine ExL.nil ?_
            refine Ex.cond rfl (fun hb25 => ?_) (fun hb25 => ?_)
            · replace hb25 := nb_t hb25
              refine Ex.regSeq (ExL.pures 1 rfl ?_)
              refine ExL.nil ?_
              refine Ex.ret ?_
              refine RetQ.mk () rfl (.tmp rfl .nil) (tB (by first | rfl | exact absurd rfl (by assumption) | exact absurd (hvs.symm.trans (by assumption)) (by decide) | exact absurd (hvd9.symm.trans (by assumption)) (by decide))) [] (rfl) rfl (trivial)
            · replace hb25 := nb_f hb25
              refine Ex.skip ?_
              refine Ex.regSeq (ExL.pures 1 rfl ?_)
              refine ExL.free (fr_loadN rfl rfl rfl rfl rfl (SegO.whole (i := 2) rfl)) rfl rfl rfl ?_
              refine ExL.op rfl (op_ret rfl rfl rfl (c_iStepUp x5.2 (by assumption) _ _ (dig (digs x5.2 x6)) (by assumption) (by assumption) (by assumption)) (Reads.get (Reads.row (i := 4) rfl)) rfl rfl (fun x26 hx26 => ?_))
              refine ExL.pures 4 rfl ?_
              refine ExL.op rfl (op_alloc rfl rfl rfl rfl rfl (fun b27 => ?_))
              refine ExL.op rfl (op_storeC (i := 0) rfl rfl rfl rfl rfl rfl rfl rfl rfl rfl ?_)
              refine ExL.pures 2 rfl ?_
              refine ExL.nil ?_
              refine Ex.regSeq (ExL.pures 1 rfl ?_)
              refine ExL.free (fr_loadN rfl rfl rfl rfl rfl (SegO.whole (i := 3) rfl)) rfl rfl rfl ?_
              refine ExL.op rfl (op_ret rfl rfl rfl (c_sStepUp x5.2 (by assumption) _ _ (dig (digs x5.2 x6)) (by assumption) (by assumption) (by assumption)) (Reads.get (Reads.row (i := 5) rfl)) rfl rfl (fun x28 hx28 => ?_))
              refine ExL.pures 4 rfl ?_
              refine ExL.op rfl (op_alloc rfl rfl rfl rfl rfl (fun b29 => ?_))
              refine ExL.op rfl (op_storeC (i := 0) rfl rfl rfl rfl rfl rfl rfl rfl rfl rfl ?_)
              refine ExL.pures 2 rfl ?_
              refine ExL.nil ?_
              refine Ex.regSeq (ExL.pures 1 rfl ?_)
              refine ExL.free (fr_loadN rfl rfl rfl rfl rfl (SegO.whole (i := 0) rfl)) rfl rfl rfl ?_
              refine ExL.op rfl (op_ret rfl rfl rfl (c_iStepDown x5.2 (by assumption) _ _ (addD x5.2 (dig (digs x5.2 x6)) 1) (by assumption) (by assumption) (by assumption)) (Reads.get (Reads.row (i := 6) rfl)) rfl rfl (fun x30 hx30 => ?_))
              refine ExL.pures 4 rfl ?_
              refine ExL.op rfl (op_alloc rfl rfl rfl rfl rfl (fun b31 => ?_))
              refine ExL.op rfl (op_storeC (i := 0) rfl rfl rfl rfl rfl rfl rfl rfl rfl rfl ?_)
              refine ExL.pures 2 rfl ?_
              refine ExL.nil ?_
              refine Ex.regSeq (ExL.pures 1 rfl ?_)
              refine ExL.free (fr_loadN rfl rfl rfl rfl rfl (SegO.whole (i := 5) rfl)) rfl rfl rfl ?_
              refine ExL.op rfl (op_ret rfl rfl rfl (c_iComplement x5.2 (by assumption) _ _ (dig (digs x5.2 x6)) (by assumption) (by assumption) (by assumption)) (Reads.get (Reads.row (i := 7) rfl)) rfl rfl (fun x32 hx32 => ?_))
              refine ExL.pures 3 rfl ?_
              refine ExL.op rfl (op_alloc rfl rfl rfl rfl rfl (fun b33 => ?_))
              refine ExL.op rfl (op_storeC (i := 0) rfl rfl rfl rfl rfl rfl rfl rfl rfl rfl ?_)
              refine ExL.pures 1 rfl ?_
              refine ExL.nil ?_
              refine Ex.regSeq (ExL.pures 1 rfl ?_)
              refine ExL.free (fr_loadN rfl rfl rfl rfl rfl (SegO.whole (i := 6) rfl)) rfl rfl rfl ?_
              refine ExL.op rfl (op_ret rfl rfl rfl (c_sComplement x5.2 (by assumption) _ _ (dig (digs x5.2 x6)) (by assumption) (by assumption) (by assumption)) (Reads.get (Reads.row (i := 8) rfl)) rfl rfl (fun x34 hx34 => ?_))
              refine ExL.pures 3 rfl ?_
              refine ExL.op rfl (op_alloc rfl rfl rfl rfl rfl (fun b35 => ?_))
              refine ExL.op rfl (op_storeC (i := 0) rfl rfl rfl rfl rfl rfl rfl rfl rfl rfl ?_)
              refine ExL.pures 1 rfl ?_
              refine ExL.nil ?_
              refine Ex.regSeq (ExL.pures 1 rfl ?_)
              refine ExL.free (fr_loadN rfl rfl rfl rfl rfl (SegO.whole (i := 0) rfl)) rfl rfl rfl ?_
              refine ExL.op rfl (op_ret rfl rfl rfl (c_iComplement x5.2 (by assumption) _ _ (compD x5.2 (dig (digs x5.2 x6))) (by assumption) (by assumption) (by assumption)) (Reads.get (Reads.row (i := 9) rfl)) rfl rfl (fun x36 hx36 => ?_))
              refine ExL.pures 3 rfl ?_
              refine ExL.op rfl (op_alloc rfl rfl rfl rfl rfl (fun b37 => ?_))
              refine ExL.op rfl (op_storeC (i := 0) rfl rfl rfl rfl rfl rfl rfl rfl rfl rfl ?_)
              refine ExL.pures 1 rfl ?_
              refine ExL.nil ?_
              refine Ex.regSeq (ExL.pures 1 rfl ?_)
              refine ExL.free (fr_loadN rfl rfl rfl rfl rfl (SegO.whole (i := 1) rfl)) rfl rfl rfl ?_
              refine ExL.op rfl (op_ret rfl rfl rfl (c_ValueOf x5.2 (by assumption) (by assumption) _ _ (compD x5.2 (dig (digs x5.2 x6))) (by assumption) (by assumption)) (Reads.get (Reads.row (i := 10) rfl)) rfl rfl (fun x38 hx38 => ?_))
              refine ExL.pures 5 rfl ?_
              refine ExL.nil ?_
              refine Ex.seq ?_
              refine Ex.regSeq (ExL.pures 2 rfl ?_)
              refine ExL.free (fr_neq_f rfl rfl rfl (fun h => h rfl)) rfl rfl rfl ?_
              refine ExL.pures 2 rfl ?_
              refine ExL.free (fr_neq_f rfl rfl rfl (fun h => h rfl)) rfl rfl rfl ?_
              refine ExL.pures 2 rfl ?_
              refine ExL.free (fr_loadN rfl rfl rfl rfl rfl (SegO.whole (i := 5) rfl)) rfl rfl rfl ?_
              refine ExL.free (fr_loadN rfl rfl rfl rfl rfl (SegO.whole (i := 4) rfl)) rfl rfl rfl ?_
              refine ExL.free (fr_neq_ints_eq (addD x5.2 (dig (digs x5.2 x6)) 1).l (addD x5.2 (dig (digs x5.2 x6)) 1).l (rfl) rfl rfl rfl rfl rfl rfl rfl rfl rfl rfl) rfl rfl rfl ?_
              refine ExL.pures 4 rfl ?_
              refine ExL.free (fr_neq_f rfl rfl rfl (fun h => h rfl)) rfl rfl rfl ?_
              refine ExL.pures 3 rfl ?_
              refine ExL.free (fr_neq_f rfl rfl rfl (fun h => h rfl)) rfl rfl rfl ?_
              refine ExL.pures 2 rfl ?_
              refine ExL.free (fr_loadN rfl rfl rfl rfl rfl (SegO.whole (i := 3) rfl)) rfl rfl rfl ?_
              refine ExL.free (fr_loadN rfl rfl rfl rfl rfl (SegO.whole (i := 8) rfl)) rfl rfl rfl ?_
              refine ExL.free (fr_neq_ints_eq (addD x5.2 (addD x5.2 (dig (digs x5.2 x6)) 1) (-1)).l (dig (digs x5.2 x6)).l (by rw [hst.back]) rfl rfl rfl rfl rfl rfl rfl rfl rfl rfl) rfl rfl rfl ?_
              refine ExL.pures 4 rfl ?_
              refine ExL.free (fr_neq_f rfl rfl rfl (by rw [hst.back, mv_sym]; exact fun h => h rfl)) rfl rfl rfl ?_
              refine ExL.pures 4 rfl ?_
              refine ExL.free (fr_neq_f rfl rfl rfl (fun h => h rfl)) rfl rfl rfl ?_
              refine ExL.pures 3 rfl ?_
              refine ExL.free (fr_neq_f rfl rfl rfl (fun h => h rfl)) rfl rfl rfl ?_
              refine ExL.pures 2 rfl ?_
              refine ExL.free (fr_loadN rfl rfl rfl rfl rfl (SegO.whole (i := 2) rfl)) rfl rfl rfl ?_
              refine ExL.free (fr_loadN rfl rfl rfl rfl rfl (SegO.whole (i := 1) rfl)) rfl rfl rfl ?_
              refine ExL.free (fr_neq_ints_eq (compD x5.2 (dig (digs x5.2 x6))).l (compD x5.2 (dig (digs x5.2 x6))).l (rfl) rfl rfl rfl rfl rfl rfl rfl rfl rfl rfl) rfl rfl rfl ?_
              refine ExL.pures 3 rfl ?_
              refine ExL.free (fr_neq_f rfl rfl rfl (fun h => h rfl)) rfl rfl rfl ?_
              refine ExL.pures 2 rfl ?_
              refine ExL.free (fr_loadN rfl rfl rfl rfl rfl (SegO.whole (i := 0) rfl)) rfl rfl rfl ?_
              refine ExL.free (fr_loadN rfl rfl rfl rfl rfl (SegO.whole (i := 8) rfl)) rfl rfl rfl ?_
              refine ExL.free (fr_neq_ints_eq (compD x5.2 (compD x5.2 (dig (digs x5.2 x6)))).l (dig (digs x5.2 x6)).l (by rw [hst.two]) rfl rfl rfl rfl rfl rfl rfl rfl rfl rfl) rfl rfl rfl ?_
              refine ExL.pures 3 rfl ?_
              refine ExL.free (fr_neq_f rfl rfl rfl (fun h => h rfl)) rfl rfl rfl ?_
              refine ExL.pures 4 rfl ?_
              refine ExL.free (by first | exact fr_sub64 rfl rfl rfl (by omega) | exact fr_sub rfl rfl rfl) rfl rfl rfl ?_
              refine ExL.pures 1 rfl ?_
              refine ExL.free (by first | exact fr_sub64 rfl rfl rfl (by omega) | exact fr_sub rfl rfl rfl) rfl rfl rfl ?_
              refine ExL.free (fr_neq_f rfl rfl rfl (fun h9 => h9 (by rw [hst.cval]; omega))) rfl rfl rfl ?_
              refine ExL.pures 1 rfl ?_
              refine ExL.nil ?_
              refine Ex.cond_f rfl ?_
              refine Ex.skip ?_
              refine Ex.regSeq (ExL.pures 1 rfl ?_)
              refine ExL.nil ?_
              refine Ex.regSeq (ExL.pures 1 rfl ?_)
              refine ExL.nil ?_
              refine Ex.seq ?_
              refine Ex.regSeq (ExL.pures 1 rfl ?_)
              refine ExL.nil ?_
              refine Ex.block ?_
              refine Ex.loopK (X := Nat) (fun k => [(36, .int .i64 (val (x5.2.take k) (dig (digs x5.2 x6)).l)), (37, .int .i64 (prod (x5.2.take k))), (38, .int .i64 k)]) (fun k => [.blk b11 ((dig (digs x5.2 x6)).l.flatMap (eI .u8)) 30]) (fun k => k ≤ x5.2.length) (fun k => x5.2.length - k) 0 [(5, _), (6, _), (7, _), (11, _)] [_] 11 [8, 10] ⟨rfl, rfl, rfl, trivial⟩ ⟨rfl, rfl, rfl, rfl, trivial⟩ (rfl) rfl (Nat.zero_le _) (fun k hI => ?_)
              have hI : k ≤ x5.2.length := hI
              refine Ex.seq ?_
              refine Ex.regSeq (ExL.pures 3 rfl ?_)
              refine ExL.lss rfl rfl rfl rfl rfl rfl (fun h39 => ?_) (fun h39 => ?_)
              · refine ExL.nil ?_
                refine Ex.cond_t rfl ?_
                refine Ex.skip ?_
                refine Ex.seq ?_
                refine Ex.block ?_
                have hkl : k < x5.2.length := by omega
                obtain ⟨hwa1, hwa2, hwa3, hwa4, hwa5, hwa6, hwa7, hwa8, hwa9, hwaa⟩ := wheel_add hSk hDk hkl hnl
                have hla9 := hst.last k (by omega)
                have hst9 := size_take hSk k
                have hbk := hSk.bases k hkl
                have hdk := hDk k hkl
                refine Ex.regSeq (ExL.pures 2 rfl ?_)
                refine ExL.op rfl (op_ret rfl rfl rfl (c_PlaceOf x5.2 (by assumption) _ _ (by omega) (by omega) k (by omega) (by assumption) (by omega)) (Reads.get (Reads.row (i := 1) rfl)) rfl rfl (fun x40 hx40 => ?_))
                refine ExL.pures 5 rfl ?_
                refine ExL.nil ?_
                refine Ex.regSeq (ExL.pures 1 rfl ?_)
                refine ExL.free (fr_loadN rfl rfl rfl rfl rfl (SegO.whole (i := 0) rfl)) rfl rfl rfl ?_
                refine ExL.pures 1 rfl ?_
                refine ExL.op rfl (op_ret rfl rfl rfl (c_LastOf x5.2 (by assumption) _ _ (dig (digs x5.2 x6)) (by assumption) (by assumption) (by assumption) (by omega) k (by omega)) (Reads.get (Reads.row (i := 1) rfl)) rfl rfl (fun x41 hx41 => ?_))
                refine ExL.pures 5 rfl ?_
                refine ExL.nil ?_
                refine Ex.seq ?_
                refine Ex.regSeq (ExL.pures 1 rfl ?_)
                refine ExL.free (fr_neq_f rfl rfl rfl (fun h => h rfl)) rfl rfl rfl ?_
                refine ExL.pures 3 rfl ?_
                refine ExL.free (fr_neq_f rfl rfl rfl (fun h9 => h9 hst9)) rfl rfl rfl ?_
                refine ExL.pures 3 rfl ?_
                refine ExL.free (fr_neq_f rfl rfl rfl (fun h => h rfl)) rfl rfl rfl ?_
                refine ExL.pures 5 rfl ?_
                refine ExL.free (by first | exact fr_remP rfl rfl rfl (by omega) | exact fr_rem rfl rfl rfl (by omega)) rfl rfl rfl ?_
                refine ExL.free (fr_neq_f rfl rfl rfl (fun h9 => h9 hla9)) rfl rfl rfl ?_
                refine ExL.pures 1 rfl ?_
                refine ExL.nil ?_
                refine Ex.cond_f rfl ?_
                refine Ex.skip ?_
                refine Ex.regSeq (ExL.pures 2 rfl ?_)
                refine ExL.free (fr_indexAddr_b (sz := 1) rfl rfl rfl rfl rfl (by omega)) rfl rfl rfl ?_
                refine ExL.free (fr_load rfl rfl rfl rfl (CellO.blk (i := 0) rfl (blkG (eI_len .u8) 0 rfl (by rw [dig_len]; omega) rfl))) rfl rfl rfl ?_
                refine ExL.free (by first | exact fr_conv64 rfl rfl rfl rfl (by omega) | exact fr_conv rfl rfl rfl rfl) rfl rfl rfl ?_
                refine ExL.pures 1 rfl ?_
                refine ExL.free (by first | exact fr_mul64 rfl rfl rfl (by omega) | exact fr_mul rfl rfl rfl) rfl rfl rfl ?_
                refine ExL.free (by first | exact fr_add64 rfl rfl rfl (by omega) | exact fr_add rfl rfl rfl) rfl rfl rfl ?_
                refine ExL.pures 1 rfl ?_
                refine ExL.nil ?_
                refine Ex.region (ExL.pures 3 rfl ?_)
                refine ExL.free (fr_indexAddrR (sz := 1) 1 rfl rfl rfl rfl rfl rfl (by omega)) rfl rfl rfl ?_
                refine ExL.free (fr_load rfl rfl rfl rfl (by first | exact cellN (Reads.row (i := 1) rfl) (eI_len .u8) 0 0 rfl (by omega) rfl | exact cellF (Reads.row (i := 1) rfl) (eI_len .u8) 0 0 rfl (by omega) rfl)) rfl rfl rfl ?_
                refine ExL.free (by first | exact fr_conv64 rfl rfl rfl rfl (by omega) | exact fr_conv rfl rfl rfl rfl) rfl rfl rfl ?_
                refine ExL.free (by first | exact fr_mul64 rfl rfl rfl (by omega) | exact fr_mul rfl rfl rfl) rfl rfl rfl ?_
                refine ExL.pures 1 rfl ?_
                refine ExL.nil ?_
                refine Ex.region (ExL.pures 1 rfl ?_)
                refine ExL.free (by first | exact fr_add64 rfl rfl rfl (by omega) | exact fr_add rfl rfl rfl) rfl rfl rfl ?_
                refine ExL.pures 1 rfl ?_
                refine ExL.nil ?_
                refine Hand.mk (k + 1) 2 [0, 1] ⟨agI hwa1.symm, agI hwa2.symm, rfl, trivial⟩ ⟨rfl, rfl, rfl, rfl, trivial⟩ (rfl) rfl (by omega) (by omega)
              · refine ExL.nil ?_
                refine Ex.cond_f rfl ?_
                refine Ex.exit ?_
                obtain rfl : k = x5.2.length := by omega
                refine Ex.regSeq (ExL.pures 2 rfl ?_)
                refine ExL.free (fr_eql_t rfl rfl rfl (by rw [List.take_length]; exact hst.val_)) rfl rfl rfl ?_
                refine ExL.pures 3 rfl ?_
                refine ExL.free (fr_eql_t rfl rfl rfl (by rw [List.take_length]; exact hz1.symm)) rfl rfl rfl ?_
                refine ExL.pures 2 rfl ?_
                refine ExL.nil ?_
                refine Ex.ret ?_
                refine RetQ.mk () rfl (.tmp rfl .nil) (tB (by first | rfl | exact absurd rfl (by assumption) | exact absurd (hvs.symm.trans (by assumption)) (by decide) | exact absurd (hvd9.symm.trans (by assumption)) (by decide))) [] (rfl) rfl (trivial)
end Go.Proofs.YtidnicdeogdedaaGreatDoor
