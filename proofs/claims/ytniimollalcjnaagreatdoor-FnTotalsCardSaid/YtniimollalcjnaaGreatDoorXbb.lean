/- Several texts, one behind the other. -/
import Derived.Test.YtniimollalcjnaaGreatDoorProg
import Derived.Laws.Strings
import Derived.Laws.Strings2
import Derived.Laws.Strings3
import Derived.Laws.Slices
import Derived.Lib.Split
import Derived.Lib.SplitLaws
import Derived.Lib.ParseIntBMem
import Derived.Lib.ParseIntBTie
import Derived.Stop.IfaceNil
import Derived.Handed
import Derived.HandedShaped
import Derived.Shelf.Strings.Builder1
import Derived.Shelf.Strings.BuilderF
import Derived.Shelf.Strconv.Itoa0
import Derived.Shelf.Strconv.Itoa1
import Derived.Shelf.LaysM
import Derived.Shelf.Strconv.Itoa2
import Derived.Shelf.Strconv.Itoa3
import Derived.Shelf.Strconv.Itoa4
import Derived.Shelf.Strconv.ParseIntEmpty
import Derived.Shelf.Strconv.Clone
import Derived.Shelf.Strconv.SyntaxError
import Derived.Shelf.LaysC
import Derived.Shelf.Strconv.ToError
import Derived.Shelf.Strconv.Lower
import Derived.Shelf.Strconv.ParseUint10
import Derived.Shelf.Strconv.ParseUint10Empty
import Derived.Shelf.Strconv.ParseUint10Any
import Derived.Shelf.Strconv.ParseInt10
import Derived.Shelf.Strconv.RangeError
import Derived.Shelf.Strconv.ToErrorRange
import Derived.Shelf.Strconv.ParseUintEmpty
import Derived.Shelf.Strconv.ParseUint10b64
import Derived.Shelf.Strconv.ParseUint10b32
import Derived.Shelf.Strconv.ParseUint10b16
import Derived.Shelf.Strconv.ParseUint10b8
import Derived.Shelf.Strconv.ParseUint10At
import Derived.Shelf.Strconv.ParseInt10At64
import Derived.Shelf.Strconv.ParseInt10At32
import Derived.Shelf.Strconv.ParseInt10At16
import Derived.Shelf.Strconv.ParseInt10At8
import Derived.Shelf.Strconv.ParseInt10All
import Derived.Shelf.Strconv.ParseIntPublic10
import Derived.Shelf.Strings.Search1
import Derived.Shelf.Strings.Search2
import Derived.Shelf.Strings.Search3
import Derived.Shelf.Strings.Cut
import Derived.Shelf.Strings.Count
import Derived.Shelf.Strings.Shaped
import Derived.Shelf.Strings.Split
import Derived.Shelf.Unicode.DecodeSlow
import Derived.Test.YtniimollalcjnaaGreatDoorXaa
import Derived.Test.YtniimollalcjnaaGreatDoorXab
import Derived.Test.YtniimollalcjnaaGreatDoorXac
import Derived.Test.YtniimollalcjnaaGreatDoorXba
/- What these functions of the program hand back, each proved by walking its operations. -/
set_option linter.unusedVariables false
set_option linter.unusedSimpArgs false
set_option maxRecDepth 4000
namespace Go.Proofs.YtniimollalcjnaaGreatDoor
open Go Go.Sx Go.RowKit Go.W Go.Proofs
attribute [local irreducible] Ex ExL ExD Op1 Free RetQ MutQ Reads CellO SegO LoadsAs
theorem e_24 : Enters Tryz.prog 24 := Enters.of Tryz.func24 rfl
theorem c_l06List (code : List Int) (Ac : Option Addr) (cc : Nat) (hcl : code.length ≤ maxLen) (hcu : Nums 255 code) (b : Nat) (at_ sd : Int) (hat : 0 ≤ at_ ∧ at_ ≤ 1000000) : Mut Tryz.prog 24 [.pointer (some ⟨b, 0, none⟩)] [.blk b [.slice Ac code.length cc, .int .i64 at_, .int .u64 sd] 93] (fun base w0 F => RdB base w0 Ac (code.flatMap (eI .u8))) (fun x : (Int × Int) × (Option Addr × Nat) × List VP => .slice x.2.1.1 x.2.2.length x.2.1.2) (fun x => [.blk b [.slice Ac code.length cc, .int .i64 x.1.1, .int .u64 x.1.2] 93, .row (.slice x.2.1.1 x.2.2.length x.2.1.2) 39 2 x.2.2.length (x.2.2.flatMap encP)]) (fun x => Small x.2.2) := by
  refine Mut.of e_24 Tryz.func24 rfl Tryz.ntmps24 rfl rfl (fun base w0 F hfr => ?_)
  have hcode := hfr
  have hm0 : maxLen = 9223372036854775807 := rfl
  refine Ex.regSeq (ExL.pures 1 rfl ?_)
  refine ExL.nil ?_
  refine Ex.regSeq (ExL.pures 0 rfl ?_)
  refine ExL.op rfl (op_buildSlice (sz := 2) rfl rfl rfl rfl rfl rfl rfl rfl (by decide) rfl rfl rfl (fun r1 => ?_))
  refine ExL.pures 1 rfl ?_
  refine ExL.nil ?_
  refine Ex.regSeq (ExL.pures 1 rfl ?_)
  refine ExL.op rfl (op_mut rfl rfl rfl (c_pick code _ _ (by omega) (by assumption) _ at_ _ (by omega) 6 (by omega)) (perm_at (i := 1) rfl) (hcode) rfl rfl (fun x2 hx2 => ?_))
  refine ExL.pures 1 rfl ?_
  refine ExL.op rfl (op_mut rfl rfl rfl (c_pick code _ _ (by omega) (by assumption) _ x2.2.1 _ (by omega) 20 (by omega)) (perm_at (i := 0) rfl) (hcode) rfl rfl (fun x3 hx3 => ?_))
  refine ExL.free (fr_build rfl rfl rfl rfl) rfl rfl rfl ?_
  refine ExL.op rfl (op_alloc rfl rfl rfl rfl rfl (fun b4 => ?_))
  refine ExL.op rfl (op_storeC (i := 0) rfl rfl rfl rfl rfl rfl rfl rfl rfl rfl ?_)
  refine ExL.nil ?_
  refine Ex.seq ?_
  refine Ex.regSeq (ExL.pures 1 rfl ?_)
  refine ExL.op rfl (op_mut rfl rfl rfl (c_pick code _ _ (by omega) (by assumption) _ x3.2.1 _ (by omega) 7 (by omega)) (perm_at (i := 1) rfl) (hcode) rfl rfl (fun x5 hx5 => ?_))
  refine ExL.pures 1 rfl ?_
  refine ExL.nil ?_
  refine Ex.block ?_
  refine Ex.loopK (X := DrS) (fun q => [(3, .slice q.A q.l.length q.c), (5, .int .i64 q.k)]) (fun q => [.blk b4 (encP q.p) 39, .blk b [.slice Ac code.length cc, .int .i64 q.at_, .int .u64 q.sd] 93, .row (.slice q.A q.l.length q.c) 39 2 q.l.length (q.l.flatMap encP)]) (fun q => Dr q.l q.p ∧ q.l.length + q.k ≤ 6 ∧ 0 ≤ q.k ∧ 0 ≤ q.at_ ∧ q.at_ ≤ at_ + 6 + 4 * q.l.length) (fun q => q.k.toNat) (⟨[], ⟨x2.1, x3.1⟩, x5.2.1, x5.2.2, x5.1, (some ⟨r1, 0, none⟩), 0⟩ : DrS) [(0, _), (2, _), (4, _)] (F) 3 [1, 0, 2] ⟨rfl, rfl, trivial⟩ ⟨rfl, rfl, rfl, trivial⟩ (rfl) rfl ⟨Dr.nil ⟨by dsimp only; omega, by dsimp only; omega⟩ ⟨by dsimp only; omega, by dsimp only; omega⟩, by dsimp only [List.length_nil]; omega, by dsimp only; omega, by dsimp only; omega, by dsimp only [List.length_nil]; omega⟩ (fun q hI => ?_)
  have hI : Dr q.l q.p ∧ q.l.length + q.k ≤ 6 ∧ 0 ≤ q.k ∧ 0 ≤ q.at_ ∧ q.at_ ≤ at_ + 6 + 4 * q.l.length := hI
  obtain ⟨hD, hlk, hk0, hat2⟩ := hI
  have hDl := hD.len
  have hDa := hD.a0
  have hDa1 := hD.a1
  have hDb := hD.b0
  have hDb1 := hD.b1
  refine Ex.seq ?_
  refine Ex.regSeq (ExL.pures 1 rfl ?_)
  refine ExL.gtr rfl rfl rfl rfl rfl rfl (fun h6 => ?_) (fun h6 => ?_)
  · refine ExL.nil ?_
    refine Ex.cond_t rfl ?_
    refine Ex.skip ?_
    refine Ex.seq ?_
    refine Ex.block ?_
    refine Ex.regSeq (ExL.pures 1 rfl ?_)
    refine ExL.free (fr_loadN rfl rfl rfl rfl rfl (SegO.whole (i := 0) rfl)) rfl rfl rfl ?_
    refine ExL.op rfl (op_buildSlice (sz := 2) rfl rfl rfl rfl rfl rfl rfl rfl (by decide) rfl rfl rfl (fun r7 => ?_))
    refine ExL.op rfl (op_append (sz := 2) (bytes := 16) (i := 3) rfl rfl rfl rfl (Reads.row (i := 0) rfl) rfl (fun e => nomatch e) rfl rfl rfl rfl (by constructor <;> first | omega | (unfold maxLen; omega)) rfl rfl (fun A8 cA8 => ?_))
    refine ExL.pures 1 rfl ?_
    refine ExL.nil ?_
    refine Ex.drawSeqI [0, 1, 3] rfl rfl ?_
    refine ExD.take (i := 0) rfl (by kernel_rfl) (pureVal_ok rfl) ((List.Sublist.cons_cons _ (List.Sublist.cons_cons _ (List.Sublist.cons _ (List.Sublist.cons_cons _ (List.nil_sublist _)))))) rfl rfl rfl ?_
    refine ExD.take (i := 1) rfl (by kernel_rfl) (fr_load rfl rfl rfl rfl (CellO.blk (i := 1) rfl rfl)) ((List.Sublist.cons_cons _ (List.Sublist.cons_cons _ (List.Sublist.cons _ (List.Sublist.cons_cons _ (List.nil_sublist _)))))) rfl rfl rfl ?_
    refine ExD.take (i := 2) rfl (by kernel_rfl) (pureVal_ok rfl) ((List.Sublist.cons_cons _ (List.Sublist.cons_cons _ (List.Sublist.cons _ (List.Sublist.cons_cons _ (List.nil_sublist _)))))) rfl rfl rfl ?_
    refine ExD.op (i := 3) rfl (by kernel_rfl) rfl (op_mut rfl rfl rfl (c_pick code _ _ (by omega) (by assumption) _ q.at_ _ (by omega) 6 (by omega)) (perm_at (i := 2) rfl) (hcode) rfl rfl (fun x10 hx10 => ⟨(List.Sublist.cons _ (List.Sublist.cons_cons _ (List.Sublist.cons_cons _ (List.Sublist.cons_cons _ (List.nil_sublist _))))), ?_⟩))
    refine ExD.take (i := 4) rfl (by kernel_rfl) (by first | exact fr_add64 rfl rfl rfl (by omega) | exact fr_add rfl rfl rfl) ((List.Sublist.cons _ (List.Sublist.cons_cons _ (List.Sublist.cons_cons _ (List.Sublist.cons_cons _ (List.nil_sublist _)))))) rfl rfl rfl ?_
    refine ExD.take (i := 5) rfl (by kernel_rfl) (by first | exact fr_add64 rfl rfl rfl (by omega) | exact fr_add rfl rfl rfl) ((List.Sublist.cons _ (List.Sublist.cons_cons _ (List.Sublist.cons_cons _ (List.Sublist.cons_cons _ (List.nil_sublist _)))))) rfl rfl rfl ?_
    refine ExD.take (i := 6) rfl (by kernel_rfl) (pureVal_ok rfl) ((List.Sublist.cons _ (List.Sublist.cons_cons _ (List.Sublist.cons_cons _ (List.Sublist.cons_cons _ (List.nil_sublist _)))))) rfl rfl rfl ?_
    refine ExD.last (i := 7) rfl (by kernel_rfl) (by kernel_rfl) rfl (op_storeC (i := 2) rfl rfl rfl rfl rfl rfl rfl rfl rfl rfl ?_)
    refine ExD.done (by kernel_rfl) ?_
    refine Ex.drawI [1, 2, 3] rfl rfl ?_
    refine ExD.take (i := 0) rfl (by kernel_rfl) (pureVal_ok rfl) ((List.Sublist.cons _ (List.Sublist.cons_cons _ (List.Sublist.cons_cons _ (List.Sublist.cons_cons _ (List.nil_sublist _)))))) rfl rfl rfl ?_
    refine ExD.take (i := 1) rfl (by kernel_rfl) (fr_load rfl rfl rfl rfl (CellO.blk (i := 1) rfl rfl)) ((List.Sublist.cons _ (List.Sublist.cons_cons _ (List.Sublist.cons_cons _ (List.Sublist.cons_cons _ (List.nil_sublist _)))))) rfl rfl rfl ?_
    refine ExD.take (i := 2) rfl (by kernel_rfl) (pureVal_ok rfl) ((List.Sublist.cons _ (List.Sublist.cons_cons _ (List.Sublist.cons_cons _ (List.Sublist.cons_cons _ (List.nil_sublist _)))))) rfl rfl rfl ?_
    refine ExD.op (i := 3) rfl (by kernel_rfl) rfl (op_mut rfl rfl rfl (c_pick code _ _ (by omega) (by assumption) _ x10.2.1 _ (by omega) 30 (by omega)) (perm_at (i := 0) rfl) (hcode) rfl rfl (fun x11 hx11 => ⟨(List.Sublist.cons _ (List.Sublist.cons_cons _ (List.Sublist.cons_cons _ (List.Sublist.cons_cons _ (List.nil_sublist _))))), ?_⟩))
    refine ExD.take (i := 4) rfl (by kernel_rfl) (by first | exact fr_add64 rfl rfl rfl (by omega) | exact fr_add rfl rfl rfl) ((List.Sublist.cons _ (List.Sublist.cons_cons _ (List.Sublist.cons_cons _ (List.Sublist.cons_cons _ (List.nil_sublist _)))))) rfl rfl rfl ?_
    refine ExD.take (i := 5) rfl (by kernel_rfl) (pureVal_ok rfl) ((List.Sublist.cons _ (List.Sublist.cons_cons _ (List.Sublist.cons_cons _ (List.Sublist.cons_cons _ (List.nil_sublist _)))))) rfl rfl rfl ?_
    refine ExD.last (i := 6) rfl (by kernel_rfl) (by kernel_rfl) rfl (op_storeC (i := 2) rfl rfl rfl rfl rfl rfl rfl rfl rfl rfl ?_)
    refine ExD.done (by kernel_rfl) ?_
    refine Ex.region (ExL.pures 1 rfl ?_)
    refine ExL.free (by first | exact fr_sub64 rfl rfl rfl (by omega) | exact fr_sub rfl rfl rfl) rfl rfl rfl ?_
    refine ExL.pures 1 rfl ?_
    refine ExL.nil ?_
    refine Hand.mk ((⟨q.l ++ [q.p], ⟨(q.p.a + (1 + x10.1)), (q.p.b + x11.1)⟩, x11.2.1, x11.2.2, q.k - 1, A8, cA8⟩ : DrS)) 4 [2, 0, 3] ⟨(by rw [List.length_append]; rfl), rfl, trivial⟩ ⟨rfl, rfl, rfl, trivial⟩ (by rw [List.length_append, List.flatMap_append]; rfl) rfl (⟨hD.next (by omega) ⟨by dsimp only; omega, by dsimp only; omega⟩ ⟨by dsimp only; omega, by dsimp only; omega⟩, by dsimp only; rw [List.length_append, show [q.p].length = 1 from rfl]; omega, by dsimp only; omega, by dsimp only; omega, by dsimp only; rw [List.length_append, show [q.p].length = 1 from rfl]; omega⟩) (by dsimp only; omega)
  · refine ExL.nil ?_
    refine Ex.cond_f rfl ?_
    refine Ex.exit ?_
    refine Ex.regSeq (ExL.pures 2 rfl ?_)
    refine ExL.nil ?_
    refine Ex.ret ?_
    refine MutQ.mk ((_, _), (_, _), q.l) rfl (.tmp rfl .nil) (rfl) 3 [1, 2] (rfl) rfl (hD.small)
theorem e_25 : Enters Tryz.prog 25 := Enters.of Tryz.func25 rfl
theorem c_l00From (code : List Int) (Ac : Option Addr) (cc : Nat) : Ret Tryz.prog 25 [.slice Ac code.length cc] (fun w => True) (fun x : Nat => .pointer (some ⟨x, 0, none⟩)) (fun x => [.blk x [.slice Ac code.length cc, .int .i64 0, .int .u64 0] 93]) (fun x => True) := by
  refine Ret.of e_25 Tryz.func25 rfl Tryz.ntmps25 rfl rfl (fun w hpre => ?_)
  refine Ex.regSeq (ExL.pures 1 rfl ?_)
  refine ExL.nil ?_
  refine Ex.regSeq (ExL.pures 1 rfl ?_)
  refine ExL.free (fr_build rfl rfl rfl rfl) rfl rfl rfl ?_
  refine ExL.op rfl (op_box rfl rfl rfl rfl rfl (fun b1 => ?_))
  refine ExL.pures 1 rfl ?_
  refine ExL.nil ?_
  refine Ex.ret ?_
  refine RetQ.mk _ rfl (.tmp rfl .nil) (rfl) [0] (rfl) rfl (trivial)
theorem e_5 : Enters Tryz.prog 5 := Enters.of Tryz.func5 rfl
theorem c_A2Totals (code : List Int) (Ac : Option Addr) (cc : Nat) (hcl : code.length ≤ maxLen) (hcu : Nums 255 code) : Ret Tryz.prog 5 [.slice Ac code.length cc] (fun w => Rd w Ac (code.flatMap (eI .u8))) (fun x : (Option Addr × Nat) × List VP => .slice x.1.1 x.2.length x.1.2) (fun x => [.row (.slice x.1.1 x.2.length x.1.2) 39 2 x.2.length (x.2.flatMap encP)]) (fun x => Small x.2) := by
  refine Ret.of e_5 Tryz.func5 rfl Tryz.ntmps5 rfl rfl (fun w hpre => ?_)
  have hcode := hpre.base
  have hm0 : maxLen = 9223372036854775807 := rfl
  refine Ex.regSeq (ExL.pures 1 rfl ?_)
  refine ExL.nil ?_
  refine Ex.regSeq (ExL.pures 1 rfl ?_)
  refine ExL.op rfl (op_ret rfl rfl rfl (c_l00From code _ _) (fun _ _ => trivial) rfl rfl (fun x1 hx1 => ?_))
  refine ExL.op rfl (op_mut rfl rfl rfl (c_l06List code _ _ (by omega) (by assumption) _ 0 _ (by omega)) (perm_at (i := 0) rfl) (hcode) rfl rfl (fun x2 hx2 => ?_))
  refine ExL.pures 1 rfl ?_
  refine ExL.nil ?_
  refine Ex.ret ?_
  refine RetQ.mk ((x2.2.1.1, x2.2.1.2), x2.2.2) rfl (.tmp rfl .nil) (rfl) [1] (rfl) rfl (by assumption)
theorem e_4 : Enters Tryz.prog 4 := Enters.of Tryz.func4 rfl
theorem c_a2Long (s : List Int) (As : Option Addr) (cs : Nat) (hls : s.length ≤ maxLen) (t : List Int) (At : Option Addr) (ct : Nat) (hlt : t.length ≤ maxLen) : Ret Tryz.prog 4 [.slice As s.length cs, .slice At t.length ct] (fun w => True) (fun x : Unit => .bool (decide (3000 < s.length ∨ 3000 < t.length))) (fun x => []) (fun x => True) := by
  refine Ret.of e_4 Tryz.func4 rfl Tryz.ntmps4 rfl rfl (fun w hpre => ?_)
  have hm0 : maxLen = 9223372036854775807 := rfl
  refine Ex.regSeq (ExL.pures 1 rfl ?_)
  refine ExL.nil ?_
  refine Ex.regSeq (ExL.pures 2 rfl ?_)
  refine ExL.gtr rfl rfl rfl rfl rfl rfl (fun h1 => ?_) (fun h1 => ?_)
  · refine ExL.pures 6 rfl ?_
    refine ExL.nil ?_
    refine Ex.ret ?_
    refine RetQ.mk () rfl (.tmp rfl .nil) (tB (by first | exact dec_t (by omega) | exact dec_f (by omega) | exact decide_eq_decide.2 (by omega))) [] (rfl) rfl (trivial)
  · refine ExL.pures 3 rfl ?_
    refine ExL.gtr rfl rfl rfl rfl rfl rfl (fun h2 => ?_) (fun h2 => ?_)
    · refine ExL.pures 2 rfl ?_
      refine ExL.nil ?_
      refine Ex.ret ?_
      refine RetQ.mk () rfl (.tmp rfl .nil) (tB (by first | exact dec_t (by omega) | exact dec_f (by omega) | exact decide_eq_decide.2 (by omega))) [] (rfl) rfl (trivial)
    · refine ExL.pures 2 rfl ?_
      refine ExL.nil ?_
      refine Ex.ret ?_
      refine RetQ.mk () rfl (.tmp rfl .nil) (tB (by first | exact dec_t (by omega) | exact dec_f (by omega) | exact decide_eq_decide.2 (by omega))) [] (rfl) rfl (trivial)
theorem e_36 : Enters Tryz.prog 36 := Enters.of Tryz.func36 rfl
theorem c_l00Same (s : List Int) (As : Option Addr) (cs : Nat) (hls : s.length ≤ maxLen) (t : List Int) (At : Option Addr) (ct : Nat) (hlt : t.length ≤ maxLen) : Ret Tryz.prog 36 [.slice As s.length cs, .slice At t.length ct] (fun w => Rd w As (s.flatMap (eI .i64)) ∧ Rd w At (t.flatMap (eI .i64))) (fun x : Unit => .bool (decide (s = t))) (fun x => []) (fun x => True) := by
  refine Ret.of e_36 Tryz.func36 rfl Tryz.ntmps36 rfl rfl (fun w hpre => ?_)
  have hs := hpre.1.base
  have ht := hpre.2.base
  have hm0 : maxLen = 9223372036854775807 := rfl
  refine Ex.regSeq (ExL.pures 1 rfl ?_)
  refine ExL.nil ?_
  refine Ex.seq ?_
  refine Ex.regSeq (ExL.pures 4 rfl ?_)
  refine ExL.neq rfl rfl rfl rfl rfl rfl (fun h1 => ?_) (fun h1 => ?_)
  · refine ExL.nil ?_
    refine Ex.cond_t rfl ?_
    refine Ex.regSeq (ExL.pures 1 rfl ?_)
    refine ExL.nil ?_
    refine Ex.ret ?_
    refine RetQ.mk () rfl (.tmp rfl .nil) (tB (by first | exact eq_len (by omega) | exact eq_no k (by assumption) | exact eq_yes (k := k) (by omega) (by omega) hall)) [] (rfl) rfl (trivial)
  · refine ExL.nil ?_
    refine Ex.cond_f rfl ?_
    refine Ex.skip ?_
    refine Ex.seq ?_
    refine Ex.regSeq (ExL.pures 1 rfl ?_)
    refine ExL.nil ?_
    refine Ex.block ?_
    refine Ex.loopK (X := Nat) (fun k => [(5, .int .i64 k)]) (fun k => []) (fun k => k ≤ s.length ∧ ∀ i, i < k → s.getD i 0 = t.getD i 0) (fun k => s.length - k) 0 [(0, _), (1, _)] [] 0 [] ⟨rfl, trivial⟩ ⟨rfl, rfl, trivial⟩ (rfl) rfl ⟨Nat.zero_le _, fun i hi => by omega⟩ (fun k hI => ?_)
    have hI : k ≤ s.length ∧ ∀ i, i < k → s.getD i 0 = t.getD i 0 := hI
    obtain ⟨hk, hall⟩ := hI
    refine Ex.seq ?_
    refine Ex.regSeq (ExL.pures 3 rfl ?_)
    refine ExL.lss rfl rfl rfl rfl rfl rfl (fun h2 => ?_) (fun h2 => ?_)
    · refine ExL.nil ?_
      refine Ex.cond_t rfl ?_
      refine Ex.skip ?_
      refine Ex.seq ?_
      refine Ex.block ?_
      refine Ex.drawSeqM rfl ?_
      refine ExD.take (i := 0) rfl (by kernel_rfl) (pureVal_ok rfl) ((List.Sublist.refl _)) rfl rfl rfl ?_
      refine ExD.take (i := 1) rfl (by kernel_rfl) (pureVal_ok rfl) ((List.Sublist.refl _)) rfl rfl rfl ?_
      refine ExD.take (i := 2) rfl (by kernel_rfl) (fr_indexAddrF (Reads.old hs) (eI_len .i64) rfl rfl rfl rfl rfl rfl (by omega)) ((List.Sublist.refl _)) rfl rfl rfl ?_
      refine ExD.take (i := 3) rfl (by kernel_rfl) (fr_load rfl rfl rfl rfl (by first | exact cellN (Reads.old hs) (eI_len .i64) 0 0 rfl (by omega) rfl | exact cellF (Reads.old hs) (eI_len .i64) 0 0 rfl (by omega) rfl)) ((List.Sublist.refl _)) rfl rfl rfl ?_
      refine ExD.take (i := 4) rfl (by kernel_rfl) (pureVal_ok rfl) ((List.Sublist.refl _)) rfl rfl rfl ?_
      refine ExD.take (i := 5) rfl (by kernel_rfl) (pureVal_ok rfl) ((List.Sublist.refl _)) rfl rfl rfl ?_
      refine ExD.take (i := 6) rfl (by kernel_rfl) (fr_indexAddrF (Reads.old ht) (eI_len .i64) rfl rfl rfl rfl rfl rfl (by omega)) ((List.Sublist.refl _)) rfl rfl rfl ?_
      refine ExD.take (i := 7) rfl (by kernel_rfl) (fr_load rfl rfl rfl rfl (by first | exact cellN (Reads.old ht) (eI_len .i64) 0 0 rfl (by omega) rfl | exact cellF (Reads.old ht) (eI_len .i64) 0 0 rfl (by omega) rfl)) ((List.Sublist.refl _)) rfl rfl rfl ?_
      refine ExD.cmp_neq (i := 8) rfl (by kernel_rfl) rfl rfl rfl ((List.Sublist.refl _)) rfl rfl rfl (fun h3 => ?_) (fun h3 => ?_)
      · refine ExD.done (by kernel_rfl) ?_
        refine Ex.cond_t rfl ?_
        refine Ex.regSeq (ExL.pures 1 rfl ?_)
        refine ExL.nil ?_
        refine Ex.ret ?_
        refine RetQ.mk () rfl (.tmp rfl .nil) (tB (by first | exact eq_len (by omega) | exact eq_no k (by assumption) | exact eq_yes (k := k) (by omega) (by omega) hall)) [] (rfl) rfl (trivial)
      · refine ExD.done (by kernel_rfl) ?_
        refine Ex.cond_f rfl ?_
        refine Ex.skip ?_
        refine Ex.region (ExL.pures 1 rfl ?_)
        refine ExL.free (by first | exact fr_add64 rfl rfl rfl (by omega) | exact fr_add rfl rfl rfl) rfl rfl rfl ?_
        refine ExL.pures 1 rfl ?_
        refine ExL.nil ?_
        refine Hand.mk (k + 1) 0 [] ⟨rfl, trivial⟩ ⟨rfl, rfl, trivial⟩ (rfl) rfl (⟨by omega, all_snoc hall (by first | assumption | omega)⟩) (by omega)
    · refine ExL.nil ?_
      refine Ex.cond_f rfl ?_
      refine Ex.exit ?_
      refine Ex.regSeq (ExL.pures 1 rfl ?_)
      refine ExL.nil ?_
      refine Ex.ret ?_
      refine RetQ.mk () rfl (.tmp rfl .nil) (tB (by first | exact eq_len (by omega) | exact eq_no k (by assumption) | exact eq_yes (k := k) (by omega) (by omega) hall)) [] (rfl) rfl (trivial)
theorem e_14 : Enters Tryz.prog 14 := Enters.of Tryz.func14 rfl
theorem c_A2Same (s : List Int) (As : Option Addr) (cs : Nat) (hls : s.length ≤ maxLen) (t : List Int) (At : Option Addr) (ct : Nat) (hlt : t.length ≤ maxLen) : Ret Tryz.prog 14 [.slice As s.length cs, .slice At t.length ct] (fun w => Rd w As (s.flatMap (eI .i64)) ∧ Rd w At (t.flatMap (eI .i64))) (fun x : Unit => .bool (decide (s = t))) (fun x => []) (fun x => True) := by
  refine Ret.of e_14 Tryz.func14 rfl Tryz.ntmps14 rfl rfl (fun w hpre => ?_)
  have hs := hpre.1.base
  have ht := hpre.2.base
  have hm0 : maxLen = 9223372036854775807 := rfl
  refine Ex.regSeq (ExL.pures 1 rfl ?_)
  refine ExL.nil ?_
  refine Ex.regSeq (ExL.pures 2 rfl ?_)
  refine ExL.op rfl (op_ret rfl rfl rfl (c_l00Same s _ _ (by omega) t _ _ (by omega)) (fun w hw => ⟨Reads.get (Reads.old hs) w hw, Reads.get (Reads.old ht) w hw⟩) rfl rfl (fun x1 hx1 => ?_))
  refine ExL.pures 1 rfl ?_
  refine ExL.nil ?_
  refine Ex.ret ?_
  refine RetQ.mk () rfl (.tmp rfl .nil) (rfl) [] (rfl) rfl (trivial)
end Go.Proofs.YtniimollalcjnaaGreatDoor

/- What these functions of the program hand back, each proved by walking its operations. -/
set_option linter.unusedVariables false
set_option linter.unusedSimpArgs false
set_option maxRecDepth 4000
namespace Go.Proofs.YtniimollalcjnaaGreatDoor
open Go Go.Sx Go.RowKit Go.W Go.Proofs
attribute [local irreducible] Ex ExL ExD Op1 Free RetQ MutQ Reads CellO SegO LoadsAs
end Go.Proofs.YtniimollalcjnaaGreatDoor

/- What these functions of the program hand back, each proved by walking its operations. -/
set_option linter.unusedVariables false
set_option linter.unusedSimpArgs false
set_option maxRecDepth 4000
namespace Go.Proofs.YtniimollalcjnaaGreatDoor
open Go Go.Sx Go.RowKit Go.W Go.Proofs
attribute [local irreducible] Ex ExL ExD Op1 Free RetQ MutQ Reads CellO SegO LoadsAs
theorem e_11 : Enters Tryz.prog 11 := Enters.of Tryz.func11 rfl
theorem c_a2At (t : List Int) (hut : Nums 255 t) (At : Option Addr) (ct : Nat) (hlt : t.length ≤ maxLen) (i : Int) (hi : 0 ≤ i ∧ i ≤ 1000000000) (n : Int) (hn : 1 ≤ n ∧ n ≤ 1000) : Ret Tryz.prog 11 [.slice At t.length ct, .int .i64 i, .int .i64 n] (fun w => Rd w At (t.flatMap (eI .u8))) (fun x : Unit => .int .i64 (aAt t i n)) (fun x => []) (fun x => True) := by
  refine Ret.of e_11 Tryz.func11 rfl Tryz.ntmps11 rfl rfl (fun w hpre => ?_)
  have ht := hpre.base
  have hm0 : maxLen = 9223372036854775807 := rfl
  refine Ex.regSeq (ExL.pures 1 rfl ?_)
  refine ExL.nil ?_
  refine Ex.seq ?_
  refine Ex.regSeq (ExL.pures 3 rfl ?_)
  refine ExL.geq rfl rfl rfl rfl rfl rfl (fun h1 => ?_) (fun h1 => ?_)
  · refine ExL.pures 4 rfl ?_
    refine ExL.nil ?_
    refine Ex.cond_t rfl ?_
    refine Ex.regSeq (ExL.pures 1 rfl ?_)
    refine ExL.nil ?_
    refine Ex.ret ?_
    refine RetQ.mk () rfl (.tmp rfl .nil) (tI (by unfold aAt; first | (rw [if_pos (by omega)]; done) | (rw [if_neg (by omega)]; done) | (exfalso; omega))) [] (rfl) rfl (trivial)
  · refine ExL.pures 2 rfl ?_
    refine ExL.lss rfl rfl rfl rfl rfl rfl (fun h2 => ?_) (fun h2 => ?_)
    · refine ExL.pures 1 rfl ?_
      refine ExL.nil ?_
      refine Ex.cond_t rfl ?_
      refine Ex.regSeq (ExL.pures 1 rfl ?_)
      refine ExL.nil ?_
      refine Ex.ret ?_
      refine RetQ.mk () rfl (.tmp rfl .nil) (tI (by unfold aAt; first | (rw [if_pos (by omega)]; done) | (rw [if_neg (by omega)]; done) | (exfalso; omega))) [] (rfl) rfl (trivial)
    · refine ExL.pures 1 rfl ?_
      refine ExL.nil ?_
      refine Ex.cond_f rfl ?_
      refine Ex.skip ?_
      have hxb := hut.at_ (by omega) i.toNat
      refine Ex.regSeq (ExL.pures 2 rfl ?_)
      refine ExL.free (fr_indexAddrF (Reads.old ht) (eI_len .u8) rfl rfl rfl rfl rfl rfl (by omega)) rfl rfl rfl ?_
      refine ExL.free (fr_load rfl rfl rfl rfl (by first | exact cellN (Reads.old ht) (eI_len .u8) 0 0 rfl (by omega) rfl | exact cellF (Reads.old ht) (eI_len .u8) 0 0 rfl (by omega) rfl)) rfl rfl rfl ?_
      refine ExL.free (by first | exact fr_conv64 rfl rfl rfl rfl (by omega) | exact fr_conv rfl rfl rfl rfl) rfl rfl rfl ?_
      refine ExL.pures 1 rfl ?_
      refine ExL.free (by first | exact fr_remP rfl rfl rfl (by omega) | exact fr_rem rfl rfl rfl (by omega)) rfl rfl rfl ?_
      refine ExL.pures 1 rfl ?_
      refine ExL.nil ?_
      refine Ex.ret ?_
      refine RetQ.mk () rfl (.tmp rfl .nil) (tI (by unfold aAt; first | (rw [if_pos (by omega)]; done) | (rw [if_neg (by omega)]; done) | (exfalso; omega))) [] (rfl) rfl (trivial)
theorem e_12 : Enters Tryz.prog 12 := Enters.of Tryz.func12 rfl
theorem c_iShares (cv : Int) (hc : 0 ≤ cv ∧ cv ≤ 1000000000000) (dn : Nat) (hd : 1 ≤ dn ∧ dn ≤ 400) : Ret Tryz.prog 12 [.int .i64 cv, .int .i64 (dn : Int)] (fun w => True) (fun x : Option Addr × Nat => .tuple #[.slice x.1 (shL cv dn dn).length x.2, .int .i64 0]) (fun x => [.row (.slice x.1 (shL cv dn dn).length x.2) 2 1 (shL cv dn dn).length ((shL cv dn dn).flatMap (eI .i64))]) (fun x => True) := by
  refine Ret.of e_12 Tryz.func12 rfl Tryz.ntmps12 rfl rfl (fun w hpre => ?_)
  have hm0 : maxLen = 9223372036854775807 := rfl
  refine Ex.regSeq (ExL.pures 2 rfl ?_)
  refine ExL.nil ?_
  refine Ex.seq ?_
  refine Ex.regSeq (ExL.pures 1 rfl ?_)
  refine ExL.op rfl (op_ret rfl rfl rfl (c_within _ _ _) (fun _ _ => trivial) rfl rfl (fun x1 hx1 => ?_))
  refine ExL.pures 2 rfl ?_
  refine ExL.bool (d := 11) rfl (fun hb2 => ?_) (fun hb2 => ?_)
  · replace hb2 := nd_t hb2
    refine ExL.pures 4 rfl ?_
    refine ExL.nil ?_
    refine Ex.cond_t rfl ?_
    exfalso; omega
  · replace hb2 := nd_f hb2
    refine ExL.pures 1 rfl ?_
    refine ExL.op rfl (op_ret rfl rfl rfl (c_within _ _ _) (fun _ _ => trivial) rfl rfl (fun x3 hx3 => ?_))
    refine ExL.pures 2 rfl ?_
    refine ExL.nil ?_
    refine Ex.cond rfl (fun hb4 => ?_) (fun hb4 => ?_)
    · replace hb4 := nd_t hb4
      exfalso; omega
    · replace hb4 := nd_f hb4
      refine Ex.skip ?_
      refine Ex.regSeq (ExL.pures 0 rfl ?_)
      refine ExL.op rfl (op_buildSlice (sz := 1) rfl rfl rfl rfl rfl rfl rfl rfl (by decide) rfl rfl rfl (fun r5 => ?_))
      refine ExL.pures 1 rfl ?_
      refine ExL.nil ?_
      refine Ex.seq ?_
      refine Ex.regSeq (ExL.pures 2 rfl ?_)
      refine ExL.nil ?_
      refine Ex.block ?_
      refine Ex.loopA (fun k A c => [(6, .slice A (shL cv dn k).length c), (18, .int .i64 k)]) (fun k A c => [.row (.slice A (shL cv dn k).length c) 2 1 (shL cv dn k).length ((shL cv dn k).flatMap (eI .i64))]) (fun k => k ≤ dn) (fun k => dn - k) 0 ((some ⟨r5, 0, none⟩)) (0) [(0, _), (1, _), (4, _), (5, _), (17, _)] [] 1 [0] ⟨rfl, rfl, trivial⟩ ⟨rfl, rfl, rfl, rfl, rfl, trivial⟩ (rfl) rfl (Nat.zero_le _) (fun k A c hI => ?_)
      have hI : k ≤ dn := hI
      refine Ex.regSeq (ExL.pures 0 rfl ?_)
      refine ExL.lss rfl rfl rfl rfl rfl rfl (fun h6 => ?_) (fun h6 => ?_)
      · refine ExL.nil ?_
        refine Ex.seq ?_
        refine Ex.cond_t rfl ?_
        refine Ex.skip ?_
        refine Ex.seq ?_
        refine Ex.block ?_
        have hkd : k < dn := by omega
        obtain ⟨⟨hm1, hm2, hm3, hm4⟩, hm5, hm6, hm7, hm8⟩ := sh_bd2 (k := k) (d := (dn : Int)) hc (by omega) (by omega)
        have hsl := shL_len cv dn k
        refine Ex.regSeq (ExL.pures 2 rfl ?_)
        refine ExL.nil ?_
        refine Ex.drawI [] rfl rfl ?_
        refine ExD.take (i := 0) rfl (by kernel_rfl) (pureVal_ok rfl) ((List.nil_sublist _)) rfl rfl rfl ?_
        refine ExD.take (i := 1) rfl (by kernel_rfl) (pureVal_ok rfl) ((List.nil_sublist _)) rfl rfl rfl ?_
        refine ExD.take (i := 2) rfl (by kernel_rfl) (pureVal_ok rfl) ((List.nil_sublist _)) rfl rfl rfl ?_
        refine ExD.take (i := 3) rfl (by kernel_rfl) (by first | exact fr_add64 rfl rfl rfl (by omega) | exact fr_add rfl rfl rfl) ((List.nil_sublist _)) rfl rfl rfl ?_
        refine ExD.take (i := 4) rfl (by kernel_rfl) (by first | exact fr_mul64 rfl rfl rfl (by omega) | exact fr_mul rfl rfl rfl) ((List.nil_sublist _)) rfl rfl rfl ?_
        refine ExD.take (i := 5) rfl (by kernel_rfl) (pureVal_ok rfl) ((List.nil_sublist _)) rfl rfl rfl ?_
        refine ExD.take (i := 6) rfl (by kernel_rfl) (by first | exact fr_quo64 rfl rfl rfl (by omega) | exact fr_quo rfl rfl rfl (by omega)) ((List.nil_sublist _)) rfl rfl rfl ?_
        refine ExD.take (i := 7) rfl (by kernel_rfl) (pureVal_ok rfl) ((List.nil_sublist _)) rfl rfl rfl ?_
        refine ExD.take (i := 8) rfl (by kernel_rfl) (pureVal_ok rfl) ((List.nil_sublist _)) rfl rfl rfl ?_
        refine ExD.take (i := 9) rfl (by kernel_rfl) (by first | exact fr_mul64 rfl rfl rfl (by omega) | exact fr_mul rfl rfl rfl) ((List.nil_sublist _)) rfl rfl rfl ?_
        refine ExD.take (i := 10) rfl (by kernel_rfl) (pureVal_ok rfl) ((List.nil_sublist _)) rfl rfl rfl ?_
        refine ExD.take (i := 11) rfl (by kernel_rfl) (by first | exact fr_quo64 rfl rfl rfl (by omega) | exact fr_quo rfl rfl rfl (by omega)) ((List.nil_sublist _)) rfl rfl rfl ?_
        refine ExD.take (i := 12) rfl (by kernel_rfl) (by first | exact fr_sub64 rfl rfl rfl (by omega) | exact fr_sub rfl rfl rfl) ((List.nil_sublist _)) rfl rfl rfl ?_
        refine ExD.op (i := 13) rfl (by kernel_rfl) rfl (op_buildSlice (sz := 1) rfl rfl rfl rfl rfl rfl rfl rfl (by decide) rfl rfl rfl (fun r7 => ⟨(List.nil_sublist _), ?_⟩))
        refine ExD.op (i := 14) rfl (by kernel_rfl) rfl (op_append (sz := 1) (bytes := 8) (i := 1) rfl rfl rfl rfl (Reads.row (i := 0) rfl) rfl (fun e => nomatch e) rfl rfl rfl rfl (by constructor <;> first | omega | (unfold maxLen; omega)) rfl rfl (fun A8 cA8 => ⟨(List.nil_sublist _), ?_⟩))
        refine ExD.take (i := 15) rfl (by kernel_rfl) (pureVal_ok rfl) ((List.nil_sublist _)) rfl rfl rfl ?_
        refine ExD.done (by kernel_rfl) ?_
        refine Ex.region (ExL.pures 0 rfl ?_)
        refine ExL.free (by first | exact fr_add64 rfl rfl rfl (by omega) | exact fr_add rfl rfl rfl) rfl rfl rfl ?_
        refine ExL.pures 1 rfl ?_
        refine ExL.nil ?_
        refine HandA.of (k + 1) (A8) (cA8) 2 [1] ⟨(by rw [shL, List.length_append]; rfl), rfl, trivial⟩ ⟨rfl, rfl, rfl, rfl, rfl, trivial⟩ (by rw [shL, List.length_append, List.flatMap_append]; rfl) rfl (by omega) (by omega)
      · refine ExL.nil ?_
        refine Ex.seq ?_
        refine Ex.cond_f rfl ?_
        refine Ex.exit ?_
        obtain rfl : k = dn := by omega
        refine Ex.regSeq (ExL.pures 3 rfl ?_)
        refine ExL.nil ?_
        refine Ex.ret ?_
        refine RetQ.mk (A, c) rfl (.tmp rfl (.tmp rfl .nil)) (rfl) [0] (rfl) rfl (trivial)
theorem e_13 : Enters Tryz.prog 13 := Enters.of Tryz.func13 rfl
theorem c_sShares (cv : Int) (hc : 0 ≤ cv ∧ cv ≤ 1000000000000) (dn : Nat) (hd : 1 ≤ dn ∧ dn ≤ 400) : Ret Tryz.prog 13 [.int .i64 cv, .int .i64 (dn : Int)] (fun w => True) (fun x : Option Addr × Nat => .tuple #[.slice x.1 (shL cv dn dn).length x.2, .int .i64 0]) (fun x => [.row (.slice x.1 (shL cv dn dn).length x.2) 2 1 (shL cv dn dn).length ((shL cv dn dn).flatMap (eI .i64))]) (fun x => True) := by
  refine Ret.of e_13 Tryz.func13 rfl Tryz.ntmps13 rfl rfl (fun w hpre => ?_)
  have hm0 : maxLen = 9223372036854775807 := rfl
  refine Ex.regSeq (ExL.pures 2 rfl ?_)
  refine ExL.nil ?_
  refine Ex.seq ?_
  refine Ex.regSeq (ExL.pures 1 rfl ?_)
  refine ExL.op rfl (op_ret rfl rfl rfl (c_l06Positive _) (fun _ _ => trivial) rfl rfl (fun x1 hx1 => ?_))
  refine ExL.pures 2 rfl ?_
  refine ExL.bool (d := 11) rfl (fun hb2 => ?_) (fun hb2 => ?_)
  · replace hb2 := nd_t hb2
    refine ExL.pures 4 rfl ?_
    refine ExL.nil ?_
    refine Ex.cond_t rfl ?_
    exfalso; omega
  · replace hb2 := nd_f hb2
    refine ExL.pures 1 rfl ?_
    refine ExL.op rfl (op_ret rfl rfl rfl (c_l00In _ _ _) (fun _ _ => trivial) rfl rfl (fun x3 hx3 => ?_))
    refine ExL.pures 2 rfl ?_
    refine ExL.nil ?_
    refine Ex.cond rfl (fun hb4 => ?_) (fun hb4 => ?_)
    · replace hb4 := nd_t hb4
      exfalso; omega
    · replace hb4 := nd_f hb4
      refine Ex.skip ?_
      refine Ex.regSeq (ExL.pures 0 rfl ?_)
      refine ExL.op rfl (op_buildSlice (sz := 1) rfl rfl rfl rfl rfl rfl rfl rfl (by decide) rfl rfl rfl (fun r5 => ?_))
      refine ExL.pures 1 rfl ?_
      refine ExL.nil ?_
      refine Ex.seq ?_
      refine Ex.regSeq (ExL.pures 1 rfl ?_)
      refine ExL.nil ?_
      refine Ex.block ?_
      refine Ex.loopA (fun k A c => [(6, .slice A (shL cv dn k).length c), (7, .int .i64 k)]) (fun k A c => [.row (.slice A (shL cv dn k).length c) 2 1 (shL cv dn k).length ((shL cv dn k).flatMap (eI .i64))]) (fun k => k ≤ dn) (fun k => dn - k) 0 ((some ⟨r5, 0, none⟩)) (0) [(0, _), (1, _), (4, _), (5, _)] [] 1 [0] ⟨rfl, rfl, trivial⟩ ⟨rfl, rfl, rfl, rfl, trivial⟩ (rfl) rfl (Nat.zero_le _) (fun k A c hI => ?_)
      have hI : k ≤ dn := hI
      refine Ex.seq ?_
      refine Ex.regSeq (ExL.pures 2 rfl ?_)
      refine ExL.lss rfl rfl rfl rfl rfl rfl (fun h6 => ?_) (fun h6 => ?_)
      · refine ExL.nil ?_
        refine Ex.cond_t rfl ?_
        refine Ex.skip ?_
        refine Ex.seq ?_
        refine Ex.block ?_
        have hkd : k < dn := by omega
        obtain ⟨⟨hm1, hm2, hm3, hm4⟩, hm5, hm6, hm7, hm8⟩ := sh_bd2 (k := k) (d := (dn : Int)) hc (by omega) (by omega)
        have hsl := shL_len cv dn k
        refine Ex.drawI [] rfl rfl ?_
        refine ExD.take (i := 0) rfl (by kernel_rfl) (pureVal_ok rfl) ((List.nil_sublist _)) rfl rfl rfl ?_
        refine ExD.take (i := 1) rfl (by kernel_rfl) (pureVal_ok rfl) ((List.nil_sublist _)) rfl rfl rfl ?_
        refine ExD.take (i := 2) rfl (by kernel_rfl) (pureVal_ok rfl) ((List.nil_sublist _)) rfl rfl rfl ?_
        refine ExD.take (i := 3) rfl (by kernel_rfl) (by first | exact fr_add64 rfl rfl rfl (by omega) | exact fr_add rfl rfl rfl) ((List.nil_sublist _)) rfl rfl rfl ?_
        refine ExD.take (i := 4) rfl (by kernel_rfl) (by first | exact fr_mul64 rfl rfl rfl (by omega) | exact fr_mul rfl rfl rfl) ((List.nil_sublist _)) rfl rfl rfl ?_
        refine ExD.take (i := 5) rfl (by kernel_rfl) (pureVal_ok rfl) ((List.nil_sublist _)) rfl rfl rfl ?_
        refine ExD.take (i := 6) rfl (by kernel_rfl) (by first | exact fr_quo64 rfl rfl rfl (by omega) | exact fr_quo rfl rfl rfl (by omega)) ((List.nil_sublist _)) rfl rfl rfl ?_
        refine ExD.take (i := 7) rfl (by kernel_rfl) (pureVal_ok rfl) ((List.nil_sublist _)) rfl rfl rfl ?_
        refine ExD.take (i := 8) rfl (by kernel_rfl) (pureVal_ok rfl) ((List.nil_sublist _)) rfl rfl rfl ?_
        refine ExD.take (i := 9) rfl (by kernel_rfl) (by first | exact fr_mul64 rfl rfl rfl (by omega) | exact fr_mul rfl rfl rfl) ((List.nil_sublist _)) rfl rfl rfl ?_
        refine ExD.take (i := 10) rfl (by kernel_rfl) (pureVal_ok rfl) ((List.nil_sublist _)) rfl rfl rfl ?_
        refine ExD.take (i := 11) rfl (by kernel_rfl) (by first | exact fr_quo64 rfl rfl rfl (by omega) | exact fr_quo rfl rfl rfl (by omega)) ((List.nil_sublist _)) rfl rfl rfl ?_
        refine ExD.take (i := 12) rfl (by kernel_rfl) (by first | exact fr_sub64 rfl rfl rfl (by omega) | exact fr_sub rfl rfl rfl) ((List.nil_sublist _)) rfl rfl rfl ?_
        refine ExD.op (i := 13) rfl (by kernel_rfl) rfl (op_buildSlice (sz := 1) rfl rfl rfl rfl rfl rfl rfl rfl (by decide) rfl rfl rfl (fun r7 => ⟨(List.nil_sublist _), ?_⟩))
        refine ExD.op (i := 14) rfl (by kernel_rfl) rfl (op_append (sz := 1) (bytes := 8) (i := 1) rfl rfl rfl rfl (Reads.row (i := 0) rfl) rfl (fun e => nomatch e) rfl rfl rfl rfl (by constructor <;> first | omega | (unfold maxLen; omega)) rfl rfl (fun A8 cA8 => ⟨(List.nil_sublist _), ?_⟩))
        refine ExD.take (i := 15) rfl (by kernel_rfl) (pureVal_ok rfl) ((List.nil_sublist _)) rfl rfl rfl ?_
        refine ExD.done (by kernel_rfl) ?_
        refine Ex.region (ExL.pures 1 rfl ?_)
        refine ExL.free (by first | exact fr_add64 rfl rfl rfl (by omega) | exact fr_add rfl rfl rfl) rfl rfl rfl ?_
        refine ExL.pures 1 rfl ?_
        refine ExL.nil ?_
        refine HandA.of (k + 1) (A8) (cA8) 2 [1] ⟨(by rw [shL, List.length_append]; rfl), rfl, trivial⟩ ⟨rfl, rfl, rfl, rfl, trivial⟩ (by rw [shL, List.length_append, List.flatMap_append]; rfl) rfl (by omega) (by omega)
      · refine ExL.nil ?_
        refine Ex.cond_f rfl ?_
        refine Ex.exit ?_
        obtain rfl : k = dn := by omega
        refine Ex.regSeq (ExL.pures 3 rfl ?_)
        refine ExL.nil ?_
        refine Ex.ret ?_
        refine RetQ.mk (A, c) rfl (.tmp rfl (.tmp rfl .nil)) (rfl) [0] (rfl) rfl (trivial)
theorem e_15 : Enters Tryz.prog 15 := Enters.of Tryz.func15 rfl
theorem c_A2Sum (l : List Int) (Al : Option Addr) (cl : Nat) (hll : l.length ≤ maxLen) (hb : ∀ i, i < l.length → -2000000000000 ≤ l.getD i 0 ∧ l.getD i 0 ≤ 2000000000000) (h1 : l.length ≤ 1000) : Ret Tryz.prog 15 [.slice Al l.length cl] (fun w => Rd w Al (l.flatMap (eI .i64))) (fun x : Unit => .int .i64 (sumI l l.length)) (fun x => []) (fun x => True) := by
  refine Ret.of e_15 Tryz.func15 rfl Tryz.ntmps15 rfl rfl (fun w hpre => ?_)
  have hl := hpre.base
  have hm0 : maxLen = 9223372036854775807 := rfl
  refine Ex.regSeq (ExL.pures 1 rfl ?_)
  refine ExL.nil ?_
  refine Ex.regSeq (ExL.pures 1 rfl ?_)
  refine ExL.nil ?_
  refine Ex.seq ?_
  refine Ex.regSeq (ExL.pures 1 rfl ?_)
  refine ExL.nil ?_
  refine Ex.block ?_
  refine Ex.loopK (X := Nat) (fun k => [(3, .int .i64 (sumI l k)), (4, .int .i64 k)]) (fun k => []) (fun k => k ≤ l.length) (fun k => l.length - k) 0 [(0, _), (2, _)] [] 0 [] ⟨rfl, rfl, trivial⟩ ⟨rfl, rfl, trivial⟩ (rfl) rfl (Nat.zero_le _) (fun k hI => ?_)
  have hI : k ≤ l.length := hI
  refine Ex.seq ?_
  refine Ex.regSeq (ExL.pures 3 rfl ?_)
  refine ExL.lss rfl rfl rfl rfl rfl rfl (fun h1 => ?_) (fun h1 => ?_)
  · refine ExL.nil ?_
    refine Ex.cond_t rfl ?_
    refine Ex.skip ?_
    refine Ex.seq ?_
    refine Ex.block ?_
    have hkl : k < l.length := by omega
    have hsb := sumI_bd hb k (by omega)
    have hbk := hb k hkl
    refine Ex.region (ExL.pures 3 rfl ?_)
    refine ExL.free (fr_indexAddrF (Reads.old hl) (eI_len .i64) rfl rfl rfl rfl rfl rfl (by omega)) rfl rfl rfl ?_
    refine ExL.free (fr_load rfl rfl rfl rfl (by first | exact cellN (Reads.old hl) (eI_len .i64) 0 0 rfl (by omega) rfl | exact cellF (Reads.old hl) (eI_len .i64) 0 0 rfl (by omega) rfl)) rfl rfl rfl ?_
    refine ExL.free (by first | exact fr_add64 rfl rfl rfl (by omega) | exact fr_add rfl rfl rfl) rfl rfl rfl ?_
    refine ExL.pures 1 rfl ?_
    refine ExL.nil ?_
    refine Ex.region (ExL.pures 1 rfl ?_)
    refine ExL.free (by first | exact fr_add64 rfl rfl rfl (by omega) | exact fr_add rfl rfl rfl) rfl rfl rfl ?_
    refine ExL.pures 1 rfl ?_
    refine ExL.nil ?_
    refine Hand.mk (k + 1) 0 [] ⟨rfl, rfl, trivial⟩ ⟨rfl, rfl, trivial⟩ (rfl) rfl (by omega) (by omega)
  · refine ExL.nil ?_
    refine Ex.cond_f rfl ?_
    refine Ex.exit ?_
    obtain rfl : k = l.length := by omega
    refine Ex.regSeq (ExL.pures 2 rfl ?_)
    refine ExL.nil ?_
    refine Ex.ret ?_
    refine RetQ.mk () rfl (.tmp rfl .nil) (rfl) [] (rfl) rfl (trivial)
theorem e_37 : Enters Tryz.prog 37 := Enters.of Tryz.func37 rfl
theorem c_moreT (l : List VP) (hT : Tot l) (Al : Option Addr) (cl : Nat) (hll : l.length ≤ maxLen) (day : Int) (hc : Covers l day) (hc2 : Covers l (day + 1)) : Ret Tryz.prog 37 [.slice Al l.length cl, .int .i64 day] (fun w => Rd w Al (l.flatMap encP)) (fun x : Unit => .int .i64 (onV l (day + 1) - onV l day)) (fun x => []) (fun x => True) := by
  refine Ret.of e_37 Tryz.func37 rfl Tryz.ntmps37 rfl rfl (fun w hpre => ?_)
  have hl := hpre.base
  have hx1 := ow_bd hT day
  have hx2 := ow_bd hT (day + 1)
  rw [ow_c hc] at hx1
  rw [ow_c hc2] at hx2
  have hda := hc.2.1
  have hdb := hc.2.2
  have hd1 := hT.day 0 hc.1
  have hd2 := hT.day (l.length - 1) (by have := hc.1; omega)
  have hm0 : maxLen = 9223372036854775807 := rfl
  refine Ex.regSeq (ExL.pures 1 rfl ?_)
  refine ExL.nil ?_
  refine Ex.regSeq (ExL.pures 2 rfl ?_)
  refine ExL.free (by first | exact fr_add64 rfl rfl rfl (by omega) | exact fr_add rfl rfl rfl) rfl rfl rfl ?_
  refine ExL.op rfl (op_ret rfl rfl rfl (c_countOn l (by assumption) _ _ (by omega) _ (by assumption)) (Reads.get (Reads.old hl)) rfl rfl (fun x1 hx1 => ?_))
  refine ExL.pures 2 rfl ?_
  refine ExL.op rfl (op_ret rfl rfl rfl (c_countOn l (by assumption) _ _ (by omega) _ (by assumption)) (Reads.get (Reads.old hl)) rfl rfl (fun x2 hx2 => ?_))
  refine ExL.free (by first | exact fr_sub64 rfl rfl rfl (by omega) | exact fr_sub rfl rfl rfl) rfl rfl rfl ?_
  refine ExL.pures 1 rfl ?_
  refine ExL.nil ?_
  refine Ex.ret ?_
  refine RetQ.mk () rfl (.tmp rfl .nil) (rfl) [] (rfl) rfl (trivial)
theorem e_16 : Enters Tryz.prog 16 := Enters.of Tryz.func16 rfl
theorem c_iCounts (l : List VP) (Al : Option Addr) (cl : Nat) (hll : l.length ≤ maxLen) (hv : validTot l = true) (hsp : lstD l - fstD l ≤ 100) : Ret Tryz.prog 16 [.slice Al l.length cl] (fun w => Rd w Al (l.flatMap encP)) (fun x : Option Addr × Nat => .tuple #[.slice x.1 (cbV l).1.length x.2, .int .i64 (cbV l).2]) (fun x => [.row (.slice x.1 (cbV l).1.length x.2) 2 1 (cbV l).1.length ((cbV l).1.flatMap (eI .i64))]) (fun x => True) := by
  refine Ret.of e_16 Tryz.func16 rfl Tryz.ntmps16 rfl rfl (fun w hpre => ?_)
  have hl := hpre.base
  have hT := tot hv
  have hf9 : (l.getD 0 zP).a = fstD l := rfl
  have hl9 : (l.getD (l.length - 1) zP).a = lstD l := rfl
  have hm0 : maxLen = 9223372036854775807 := rfl
  refine Ex.regSeq (ExL.pures 2 rfl ?_)
  refine ExL.nil ?_
  refine Ex.seq ?_
  refine Ex.block ?_
  refine Ex.regSeq (ExL.pures 1 rfl ?_)
  refine ExL.op rfl (op_ret rfl rfl rfl (c_ValidTotals l _ _ (by omega)) (Reads.get (Reads.old hl)) rfl rfl (fun x1 hx1 => ?_))
  refine ExL.pures 2 rfl ?_
  refine ExL.nil ?_
  refine Ex.cond rfl (fun hb2 => ?_) (fun hb2 => ?_)
  · replace hb2 := nb_t hb2
    exact absurd (hv.symm.trans (by assumption)) (by decide)
  · replace hb2 := nb_f hb2
    refine Ex.regSeq (ExL.pures 2 rfl ?_)
    refine ExL.eql rfl rfl rfl rfl rfl rfl (fun h3 => ?_) (fun h3 => ?_)
    · refine ExL.pures 1 rfl ?_
      refine ExL.nil ?_
      refine Ex.cond_t rfl ?_
      refine Ex.regSeq (ExL.pures 2 rfl ?_)
      refine ExL.nil ?_
      refine Ex.nilRow 2 1 ?_
      refine Ex.ret ?_
      refine RetQ.mk (none, 0) rfl (.tmp rfl (.tmp rfl .nil)) (t2 (by rw [cb_0 (by omega)]; rfl) (by rw [cb_0 (by omega)])) [0] (by rw [cb_0 (by omega)]; rfl) rfl (trivial)
    · refine ExL.pures 1 rfl ?_
      refine ExL.nil ?_
      refine Ex.cond_f rfl ?_
      refine Ex.skip ?_
      have hlp : 0 < l.length := by omega
      have hdl := days_le hT hlp
      have hfb := hT.day 0 hlp
      have hlb := hT.day (l.length - 1) (by omega)
      refine Ex.drawSeqM rfl ?_
      refine ExD.take (i := 0) rfl (by kernel_rfl) (pureVal_ok rfl) ((List.Sublist.refl _)) rfl rfl rfl ?_
      refine ExD.take (i := 1) rfl (by kernel_rfl) (fr_indexAddrF (Reads.old hl) encP_len rfl rfl rfl rfl rfl rfl (by omega)) ((List.Sublist.refl _)) rfl rfl rfl ?_
      refine ExD.take (i := 2) rfl (by kernel_rfl) (fr_fieldAddrF (i := (0 : Int).toNat) (Reads.old hl) encP_len rfl rfl rfl (by omega) rfl rfl rfl rfl) ((List.Sublist.refl _)) rfl rfl rfl ?_
      refine ExD.take (i := 3) rfl (by kernel_rfl) (fr_load rfl rfl rfl rfl (cellJ (i := 0) (0) (Reads.old hl) encP_len zP 0 rfl (by omega) (by omega) rfl)) ((List.Sublist.refl _)) rfl rfl rfl ?_
      refine ExD.take (i := 4) rfl (by kernel_rfl) (pureVal_ok rfl) ((List.Sublist.refl _)) rfl rfl rfl ?_
      refine ExD.take (i := 5) rfl (by kernel_rfl) (pureVal_ok rfl) ((List.Sublist.refl _)) rfl rfl rfl ?_
      refine ExD.take (i := 6) rfl (by kernel_rfl) (pureVal_ok rfl) ((List.Sublist.refl _)) rfl rfl rfl ?_
      refine ExD.take (i := 7) rfl (by kernel_rfl) (by first | exact fr_sub64 rfl rfl rfl (by omega) | exact fr_sub rfl rfl rfl) ((List.Sublist.refl _)) rfl rfl rfl ?_
      refine ExD.take (i := 8) rfl (by kernel_rfl) (fr_indexAddrF (Reads.old hl) encP_len rfl rfl rfl rfl rfl rfl (by omega)) ((List.Sublist.refl _)) rfl rfl rfl ?_
      refine ExD.take (i := 9) rfl (by kernel_rfl) (fr_fieldAddrF (i := ((l.length - 1) : Int).toNat) (Reads.old hl) encP_len rfl rfl rfl (by omega) rfl rfl rfl rfl) ((List.Sublist.refl _)) rfl rfl rfl ?_
      refine ExD.take (i := 10) rfl (by kernel_rfl) (fr_load rfl rfl rfl rfl (cellJ (i := (l.length - 1)) ((l.length - 1)) (Reads.old hl) encP_len zP 0 rfl (by omega) (by omega) rfl)) ((List.Sublist.refl _)) rfl rfl rfl ?_
      refine ExD.take (i := 11) rfl (by kernel_rfl) (pureVal_ok rfl) ((List.Sublist.refl _)) rfl rfl rfl ?_
      refine ExD.take (i := 12) rfl (by kernel_rfl) (pureVal_ok rfl) ((List.Sublist.refl _)) rfl rfl rfl ?_
      refine ExD.done (by kernel_rfl) ?_
      refine Ex.seq ?_
      rw [hf9, hl9]
      refine Ex.regSeq (ExL.pures 2 rfl ?_)
      refine ExL.free (by first | exact fr_sub64 rfl rfl rfl (by omega) | exact fr_sub rfl rfl rfl) rfl rfl rfl ?_
      refine ExL.gtr rfl rfl rfl rfl rfl rfl (fun h4 => ?_) (fun h4 => ?_)
      · refine ExL.nil ?_
        refine Ex.cond_t rfl ?_
        exfalso; omega
      · refine ExL.nil ?_
        refine Ex.cond_f rfl ?_
        refine Ex.skip ?_
        refine Ex.regSeq (ExL.pures 0 rfl ?_)
        refine ExL.op rfl (op_buildSlice (sz := 1) rfl rfl rfl rfl rfl rfl rfl rfl (by decide) rfl rfl rfl (fun r5 => ?_))
        refine ExL.pures 1 rfl ?_
        refine ExL.nil ?_
        refine Ex.seq ?_
        refine Ex.regSeq (ExL.pures 2 rfl ?_)
        refine ExL.nil ?_
        refine Ex.block ?_
        refine Ex.loopA (fun k A c => [(6, .slice A (cbL l (fstD l) k).length c), (7, .int .i64 (fstD l + k))]) (fun k A c => [.row (.slice A (cbL l (fstD l) k).length c) 2 1 (cbL l (fstD l) k).length ((cbL l (fstD l) k).flatMap (eI .i64))]) (fun k => (k : Int) ≤ lstD l - fstD l) (fun k => (lstD l - fstD l).toNat - k) 0 ((some ⟨r5, 0, none⟩)) (0) [(0, _), (2, _), (3, _), (5, _)] [] 1 [0] ⟨rfl, agI (by simp [fstD]), trivial⟩ ⟨rfl, rfl, rfl, rfl, trivial⟩ (rfl) rfl (by simp; omega) (fun k A c hI => ?_)
        have hI : (k : Int) ≤ lstD l - fstD l := hI
        refine Ex.seq ?_
        refine Ex.regSeq (ExL.pures 2 rfl ?_)
        refine ExL.lss rfl rfl rfl rfl rfl rfl (fun h6 => ?_) (fun h6 => ?_)
        · refine ExL.nil ?_
          refine Ex.cond_t rfl ?_
          refine Ex.skip ?_
          refine Ex.seq ?_
          refine Ex.block ?_
          have hkc : fstD l + (k : Int) < lstD l := by omega
          have hcv : Covers l (fstD l + (k : Int)) := ⟨hlp, by omega, by omega⟩
          have hcv2 : Covers l (fstD l + (k : Int) + 1) := ⟨hlp, by omega, by omega⟩
          have hob1 := on_bd hT hcv
          have hob2 := on_bd hT hcv2
          have hcl9 := cbL_len l (fstD l) k
          refine Ex.region (ExL.pures 3 rfl ?_)
          refine ExL.op rfl (op_ret rfl rfl rfl (c_moreT l hT Al cl hll (fstD l + (k : Int)) hcv hcv2) (Reads.get (Reads.old hl)) rfl rfl (fun x7 hx7 => ?_))
          refine ExL.op rfl (op_buildSlice (sz := 1) rfl rfl rfl rfl rfl rfl rfl rfl (by decide) rfl rfl rfl (fun r8 => ?_))
          refine ExL.op rfl (op_append (sz := 1) (bytes := 8) (i := 1) rfl rfl rfl rfl (Reads.row (i := 0) rfl) rfl (fun e => nomatch e) rfl rfl rfl rfl (by constructor <;> first | omega | (unfold maxLen; omega)) rfl rfl (fun A9 cA9 => ?_))
          refine ExL.pures 1 rfl ?_
          refine ExL.nil ?_
          refine Ex.region (ExL.pures 1 rfl ?_)
          refine ExL.free (by first | exact fr_add64 rfl rfl rfl (by omega) | exact fr_add rfl rfl rfl) rfl rfl rfl ?_
          refine ExL.pures 1 rfl ?_
          refine ExL.nil ?_
          refine HandA.of (k + 1) (A9) (cA9) 2 [1] ⟨(by rw [cbL, List.length_append]; rfl), agI (by push_cast; omega), trivial⟩ ⟨rfl, rfl, rfl, rfl, trivial⟩ (by rw [cbL, List.length_append, List.flatMap_append]; rfl) rfl (by push_cast; omega) (by omega)
        · refine ExL.nil ?_
          refine Ex.cond_f rfl ?_
          refine Ex.exit ?_
          have hkn : (k : Int) = lstD l - fstD l := by omega
          have hcb := cb_1 hlp hkn
          refine Ex.regSeq (ExL.pures 3 rfl ?_)
          refine ExL.nil ?_
          refine Ex.ret ?_
          refine RetQ.mk (A, c) rfl (.tmp rfl (.tmp rfl .nil)) (t2 (by rw [hcb]) (by rw [hcb])) [0] (by rw [hcb]; rfl) rfl (trivial)
theorem e_17 : Enters Tryz.prog 17 := Enters.of Tryz.func17 rfl
theorem c_sCounts (l : List VP) (Al : Option Addr) (cl : Nat) (hll : l.length ≤ maxLen) (hv : validTot l = true) (hsp : lstD l - fstD l ≤ 100) : Ret Tryz.prog 17 [.slice Al l.length cl] (fun w => Rd w Al (l.flatMap encP)) (fun x : Option Addr × Nat => .tuple #[.slice x.1 (cbV l).1.length x.2, .int .i64 (cbV l).2]) (fun x => [.row (.slice x.1 (cbV l).1.length x.2) 2 1 (cbV l).1.length ((cbV l).1.flatMap (eI .i64))]) (fun x => True) := by
  refine Ret.of e_17 Tryz.func17 rfl Tryz.ntmps17 rfl rfl (fun w hpre => ?_)
  have hl := hpre.base
  have hT := tot hv
  have hf9 : (l.getD 0 zP).a = fstD l := rfl
  have hl9 : (l.getD (l.length - 1) zP).a = lstD l := rfl
  have hm0 : maxLen = 9223372036854775807 := rfl
  refine Ex.regSeq (ExL.pures 2 rfl ?_)
  refine ExL.nil ?_
  refine Ex.seq ?_
  refine Ex.regSeq (ExL.pures 1 rfl ?_)
  refine ExL.op rfl (op_ret rfl rfl rfl (c_l06Totals l _ _ (by omega)) (Reads.get (Reads.old hl)) rfl rfl (fun x1 hx1 => ?_))
  refine ExL.pures 1 rfl ?_
  refine ExL.nil ?_
  refine Ex.cond rfl (fun hb2 => ?_) (fun hb2 => ?_)
  · replace hb2 := nb_t hb2
    exact absurd (hv.symm.trans (by assumption)) (by decide)
  · replace hb2 := nb_f hb2
    refine Ex.skip ?_
    refine Ex.regSeq (ExL.pures 3 rfl ?_)
    refine ExL.nil ?_
    refine Ex.seq ?_
    refine Ex.regSeq (ExL.pures 1 rfl ?_)
    refine ExL.eql rfl rfl rfl rfl rfl rfl (fun h3 => ?_) (fun h3 => ?_)
    · refine ExL.nil ?_
      refine Ex.cond_t rfl ?_
      refine Ex.regSeq (ExL.pures 0 rfl ?_)
      refine ExL.op rfl (op_buildSlice (sz := 1) rfl rfl rfl rfl rfl rfl rfl rfl (by decide) rfl rfl rfl (fun r4 => ?_))
      refine ExL.pures 2 rfl ?_
      refine ExL.nil ?_
      refine Ex.ret ?_
      refine RetQ.mk ((some ⟨r4, 0, none⟩), 0) rfl (.tmp rfl (.tmp rfl .nil)) (t2 (by rw [cb_0 (by omega)]; rfl) (by rw [cb_0 (by omega)])) [0] (by rw [cb_0 (by omega)]; rfl) rfl (trivial)
    · refine ExL.nil ?_
      refine Ex.cond_f rfl ?_
      refine Ex.skip ?_
      refine Ex.seq ?_
      have hlp : 0 < l.length := by omega
      have hdl := days_le hT hlp
      have hfb := hT.day 0 hlp
      have hlb := hT.day (l.length - 1) (by omega)
      refine Ex.drawSeqM rfl ?_
      refine ExD.take (i := 0) rfl (by kernel_rfl) (pureVal_ok rfl) ((List.Sublist.refl _)) rfl rfl rfl ?_
      refine ExD.take (i := 1) rfl (by kernel_rfl) (pureVal_ok rfl) ((List.Sublist.refl _)) rfl rfl rfl ?_
      refine ExD.take (i := 2) rfl (by kernel_rfl) (by first | exact fr_sub64 rfl rfl rfl (by omega) | exact fr_sub rfl rfl rfl) ((List.Sublist.refl _)) rfl rfl rfl ?_
      refine ExD.take (i := 3) rfl (by kernel_rfl) (fr_indexAddrF (Reads.old hl) encP_len rfl rfl rfl rfl rfl rfl (by omega)) ((List.Sublist.refl _)) rfl rfl rfl ?_
      refine ExD.take (i := 4) rfl (by kernel_rfl) (fr_fieldAddrF (i := ((l.length - 1) : Int).toNat) (Reads.old hl) encP_len rfl rfl rfl (by omega) rfl rfl rfl rfl) ((List.Sublist.refl _)) rfl rfl rfl ?_
      refine ExD.take (i := 5) rfl (by kernel_rfl) (fr_load rfl rfl rfl rfl (cellJ (i := (l.length - 1)) ((l.length - 1)) (Reads.old hl) encP_len zP 0 rfl (by omega) (by omega) rfl)) ((List.Sublist.refl _)) rfl rfl rfl ?_
      refine ExD.take (i := 6) rfl (by kernel_rfl) (pureVal_ok rfl) ((List.Sublist.refl _)) rfl rfl rfl ?_
      refine ExD.take (i := 7) rfl (by kernel_rfl) (fr_indexAddrF (Reads.old hl) encP_len rfl rfl rfl rfl rfl rfl (by omega)) ((List.Sublist.refl _)) rfl rfl rfl ?_
      refine ExD.take (i := 8) rfl (by kernel_rfl) (fr_fieldAddrF (i := (0 : Int).toNat) (Reads.old hl) encP_len rfl rfl rfl (by omega) rfl rfl rfl rfl) ((List.Sublist.refl _)) rfl rfl rfl ?_
      refine ExD.take (i := 9) rfl (by kernel_rfl) (fr_load rfl rfl rfl rfl (cellJ (i := 0) (0) (Reads.old hl) encP_len zP 0 rfl (by omega) (by omega) rfl)) ((List.Sublist.refl _)) rfl rfl rfl ?_
      refine ExD.take (i := 10) rfl (by kernel_rfl) (by first | exact fr_sub64 rfl rfl rfl (by omega) | exact fr_sub rfl rfl rfl) ((List.Sublist.refl _)) rfl rfl rfl ?_
      refine ExD.cmp_gtr (i := 11) rfl (by kernel_rfl) rfl rfl rfl ((List.Sublist.refl _)) rfl rfl rfl (fun h5 => ?_) (fun h5 => ?_)
      · refine ExD.done (by kernel_rfl) ?_
        refine Ex.cond_t rfl ?_
        exfalso; omega
      · refine ExD.done (by kernel_rfl) ?_
        refine Ex.cond_f rfl ?_
        refine Ex.skip ?_
        refine Ex.regSeq (ExL.pures 0 rfl ?_)
        refine ExL.op rfl (op_buildSlice (sz := 1) rfl rfl rfl rfl rfl rfl rfl rfl (by decide) rfl rfl rfl (fun r6 => ?_))
        refine ExL.pures 1 rfl ?_
        refine ExL.nil ?_
        refine Ex.seq ?_
        refine Ex.regSeq (ExL.pures 1 rfl ?_)
        refine ExL.free (fr_indexAddrF (Reads.old hl) encP_len rfl rfl rfl rfl rfl rfl (by omega)) rfl rfl rfl ?_
        refine ExL.free (fr_fieldAddrF (i := (0 : Int).toNat) (Reads.old hl) encP_len rfl rfl rfl (by omega) rfl rfl rfl rfl) rfl rfl rfl ?_
        refine ExL.free (fr_load rfl rfl rfl rfl (cellJ (i := 0) (0) (Reads.old hl) encP_len zP 0 rfl (by omega) (by omega) rfl)) rfl rfl rfl ?_
        refine ExL.pures 1 rfl ?_
        refine ExL.nil ?_
        refine Ex.block ?_
        refine Ex.loopA (fun k A c => [(5, .slice A (cbL l (fstD l) k).length c), (6, .int .i64 (fstD l + k))]) (fun k A c => [.row (.slice A (cbL l (fstD l) k).length c) 2 1 (cbL l (fstD l) k).length ((cbL l (fstD l) k).flatMap (eI .i64))]) (fun k => (k : Int) ≤ lstD l - fstD l) (fun k => (lstD l - fstD l).toNat - k) 0 ((some ⟨r6, 0, none⟩)) (0) [(0, _), (2, _), (3, _), (4, _)] [] 1 [0] ⟨rfl, agI (by simp [fstD]), trivial⟩ ⟨rfl, rfl, rfl, rfl, trivial⟩ (rfl) rfl (by simp; omega) (fun k A c hI => ?_)
        have hI : (k : Int) ≤ lstD l - fstD l := hI
        refine Ex.seq ?_
        refine Ex.regSeq (ExL.pures 3 rfl ?_)
        refine ExL.free (by first | exact fr_sub64 rfl rfl rfl (by omega) | exact fr_sub rfl rfl rfl) rfl rfl rfl ?_
        refine ExL.free (fr_indexAddrF (Reads.old hl) encP_len rfl rfl rfl rfl rfl rfl (by omega)) rfl rfl rfl ?_
        refine ExL.free (fr_fieldAddrF (i := ((l.length - 1) : Int).toNat) (Reads.old hl) encP_len rfl rfl rfl (by omega) rfl rfl rfl rfl) rfl rfl rfl ?_
        refine ExL.free (fr_load rfl rfl rfl rfl (cellJ (i := (l.length - 1)) ((l.length - 1)) (Reads.old hl) encP_len zP 0 rfl (by omega) (by omega) rfl)) rfl rfl rfl ?_
        refine ExL.lss rfl rfl rfl rfl rfl rfl (fun h7 => ?_) (fun h7 => ?_)
        · refine ExL.nil ?_
          refine Ex.cond_t rfl ?_
          refine Ex.skip ?_
          refine Ex.seq ?_
          refine Ex.block ?_
          have hkc : fstD l + (k : Int) < lstD l := by omega
          have hcv : Covers l (fstD l + (k : Int)) := ⟨hlp, by omega, by omega⟩
          have hcv2 : Covers l (fstD l + (k : Int) + 1) := ⟨hlp, by omega, by omega⟩
          have hob1 := on_bd hT hcv
          have hob2 := on_bd hT hcv2
          have hcl9 := cbL_len l (fstD l) k
          have how1 : (onW l (fstD l + (k : Int))).1 = onV l (fstD l + (k : Int)) := by rw [ow_c hcv]
          have how2 : (onW l (fstD l + (k : Int) + 1)).1 = onV l (fstD l + (k : Int) + 1) := by rw [ow_c hcv2]
          refine Ex.regSeq (ExL.pures 2 rfl ?_)
          refine ExL.op rfl (op_ret rfl rfl rfl (c_l06On l (by assumption) _ _ (by omega) _) (Reads.get (Reads.old hl)) rfl rfl (fun x8 hx8 => ?_))
          refine ExL.pures 5 rfl ?_
          refine ExL.nil ?_
          refine Ex.regSeq (ExL.pures 2 rfl ?_)
          refine ExL.free (by first | exact fr_add64 rfl rfl rfl (by omega) | exact fr_add rfl rfl rfl) rfl rfl rfl ?_
          refine ExL.op rfl (op_ret rfl rfl rfl (c_l06On l (by assumption) _ _ (by omega) _) (Reads.get (Reads.old hl)) rfl rfl (fun x9 hx9 => ?_))
          refine ExL.pures 5 rfl ?_
          refine ExL.nil ?_
          refine Ex.region (ExL.pures 3 rfl ?_)
          refine ExL.free (by first | exact fr_sub64 rfl rfl rfl (by omega) | exact fr_sub rfl rfl rfl) rfl rfl rfl ?_
          refine ExL.op rfl (op_buildSlice (sz := 1) rfl rfl rfl rfl rfl rfl rfl rfl (by decide) rfl rfl rfl (fun r10 => ?_))
          refine ExL.op rfl (op_append (sz := 1) (bytes := 8) (i := 1) rfl rfl rfl rfl (Reads.row (i := 0) rfl) rfl (fun e => nomatch e) rfl rfl rfl rfl (by constructor <;> first | omega | (unfold maxLen; omega)) rfl rfl (fun A11 cA11 => ?_))
          refine ExL.pures 1 rfl ?_
          refine ExL.nil ?_
          refine Ex.region (ExL.pures 1 rfl ?_)
          refine ExL.free (by first | exact fr_add64 rfl rfl rfl (by omega) | exact fr_add rfl rfl rfl) rfl rfl rfl ?_
          refine ExL.pures 1 rfl ?_
          refine ExL.nil ?_
          refine HandA.of (k + 1) (A11) (cA11) 2 [1] ⟨(by rw [cbL, List.length_append]; rfl), agI (by push_cast; omega), trivial⟩ ⟨rfl, rfl, rfl, rfl, trivial⟩ (by rw [cbL, List.length_append, List.flatMap_append, ← how1, ← how2]; rfl) rfl (by push_cast; omega) (by omega)
        · refine ExL.nil ?_
          refine Ex.cond_f rfl ?_
          refine Ex.exit ?_
          have hkn : (k : Int) = lstD l - fstD l := by omega
          have hcb := cb_1 hlp hkn
          refine Ex.regSeq (ExL.pures 3 rfl ?_)
          refine ExL.nil ?_
          refine Ex.ret ?_
          refine RetQ.mk (A, c) rfl (.tmp rfl (.tmp rfl .nil)) (t2 (by rw [hcb]) (by rw [hcb])) [0] (by rw [hcb]; rfl) rfl (trivial)
theorem eq_Ttl (a b : VP) : EqOk Tryz.prog 10000 39 (.agg (encP a).toArray) (.agg (encP b).toArray) (decide (a.a = b.a) && decide (a.b = b.b)) := by
  refine EqOk.as (EqOk.struct (d := 9999) rfl rfl (by kernel_rfl) (EqFs.one rfl rfl rfl rfl rfl (EqOk.int rfl) (EqFs.one rfl rfl rfl rfl rfl (EqOk.int rfl) EqFs.nil))) ?_
  simp [Bool.decide_and]
theorem e_9 : Enters Tryz.prog 9 := Enters.of Tryz.func9 rfl
theorem c_sSameTotals (s : List VP) (As : Option Addr) (cs : Nat) (hls : s.length ≤ maxLen) (At : Option Addr) (ct : Nat) : Ret Tryz.prog 9 [.slice As s.length cs, .slice At s.length ct] (fun w => Rd w As (s.flatMap encP) ∧ Rd w At (s.flatMap encP)) (fun x : Unit => .bool true) (fun x => []) (fun x => True) := by
  refine Ret.of e_9 Tryz.func9 rfl Tryz.ntmps9 rfl rfl (fun w hpre => ?_)
  have hs := hpre.1.base
  have ht := hpre.2.base
  have hm0 : maxLen = 9223372036854775807 := rfl
  refine Ex.regSeq (ExL.pures 1 rfl ?_)
  refine ExL.nil ?_
  refine Ex.seq ?_
  refine Ex.regSeq (ExL.pures 4 rfl ?_)
  refine ExL.free (fr_neq_f rfl rfl rfl (fun h => h rfl)) rfl rfl rfl ?_
  refine ExL.nil ?_
  refine Ex.cond_f rfl ?_
  refine Ex.skip ?_
  refine Ex.seq ?_
  refine Ex.regSeq (ExL.pures 1 rfl ?_)
  refine ExL.nil ?_
  refine Ex.block ?_
  refine Ex.loopK (X := Nat) (fun k => [(5, .int .i64 k)]) (fun k => []) (fun k => k ≤ s.length) (fun k => s.length - k) 0 [(0, _), (1, _)] [] 0 [] ⟨rfl, trivial⟩ ⟨rfl, rfl, trivial⟩ (rfl) rfl (Nat.zero_le _) (fun k hI => ?_)
  have hI : k ≤ s.length := hI
  refine Ex.seq ?_
  refine Ex.regSeq (ExL.pures 3 rfl ?_)
  refine ExL.lss rfl rfl rfl rfl rfl rfl (fun h1 => ?_) (fun h1 => ?_)
  · refine ExL.nil ?_
    refine Ex.cond_t rfl ?_
    refine Ex.skip ?_
    refine Ex.seq ?_
    refine Ex.block ?_
    refine Ex.drawSeqM rfl ?_
    refine ExD.take (i := 0) rfl (by kernel_rfl) (pureVal_ok rfl) ((List.Sublist.refl _)) rfl rfl rfl ?_
    refine ExD.take (i := 1) rfl (by kernel_rfl) (pureVal_ok rfl) ((List.Sublist.refl _)) rfl rfl rfl ?_
    refine ExD.take (i := 2) rfl (by kernel_rfl) (fr_indexAddrF (Reads.old hs) encP_len rfl rfl rfl rfl rfl rfl (by omega)) ((List.Sublist.refl _)) rfl rfl rfl ?_
    refine ExD.take (i := 3) rfl (by kernel_rfl) (fr_loadN rfl rfl rfl rfl rfl (by first | exact segN (Reads.old hs) encP_len rfl zP (by omega) | exact segF (Reads.old hs) encP_len rfl zP (by omega))) ((List.Sublist.refl _)) rfl rfl rfl ?_
    refine ExD.take (i := 4) rfl (by kernel_rfl) (pureVal_ok rfl) ((List.Sublist.refl _)) rfl rfl rfl ?_
    refine ExD.take (i := 5) rfl (by kernel_rfl) (pureVal_ok rfl) ((List.Sublist.refl _)) rfl rfl rfl ?_
    refine ExD.take (i := 6) rfl (by kernel_rfl) (fr_indexAddrF (Reads.old ht) encP_len rfl rfl rfl rfl rfl rfl (by omega)) ((List.Sublist.refl _)) rfl rfl rfl ?_
    refine ExD.take (i := 7) rfl (by kernel_rfl) (fr_loadN rfl rfl rfl rfl rfl (by first | exact segN (Reads.old ht) encP_len rfl zP (by omega) | exact segF (Reads.old ht) encP_len rfl zP (by omega))) ((List.Sublist.refl _)) rfl rfl rfl ?_
    refine ExD.take (i := 8) rfl (by kernel_rfl) (fr_neq_rec (EqOk.as (eq_Ttl (s.getD k zP) (s.getD k zP)) (show _ = true by simp)) rfl rfl rfl (by kernel_rfl)) ((List.Sublist.refl _)) rfl rfl rfl ?_
    refine ExD.done (by kernel_rfl) ?_
    refine Ex.cond_f rfl ?_
    refine Ex.skip ?_
    refine Ex.region (ExL.pures 1 rfl ?_)
    refine ExL.free (by first | exact fr_add64 rfl rfl rfl (by omega) | exact fr_add rfl rfl rfl) rfl rfl rfl ?_
    refine ExL.pures 1 rfl ?_
    refine ExL.nil ?_
    refine Hand.mk (k + 1) 0 [] ⟨rfl, trivial⟩ ⟨rfl, rfl, trivial⟩ (rfl) rfl (by omega) (by omega)
  · refine ExL.nil ?_
    refine Ex.cond_f rfl ?_
    refine Ex.exit ?_
    refine Ex.regSeq (ExL.pures 1 rfl ?_)
    refine ExL.nil ?_
    refine Ex.ret ?_
    refine RetQ.mk () rfl (.tmp rfl .nil) (rfl) [] (rfl) rfl (trivial)
theorem e_32 : Enters Tryz.prog 32 := Enters.of Tryz.func32 rfl
theorem c_slEqualT (s : List VP) (As : Option Addr) (cs : Nat) (hls : s.length ≤ maxLen) (At : Option Addr) (ct : Nat) : Ret Tryz.prog 32 [.slice As s.length cs, .slice At s.length ct] (fun w => Rd w As (s.flatMap encP) ∧ Rd w At (s.flatMap encP)) (fun x : Unit => .bool true) (fun x => []) (fun x => True) := by
  refine Ret.of e_32 Tryz.func32 rfl Tryz.ntmps32 rfl rfl (fun w hpre => ?_)
  have hs := hpre.1.base
  have ht := hpre.2.base
  have hm0 : maxLen = 9223372036854775807 := rfl
  refine Ex.regSeq (ExL.pures 1 rfl ?_)
  refine ExL.nil ?_
  refine Ex.seq ?_
  refine Ex.regSeq (ExL.pures 4 rfl ?_)
  refine ExL.free (fr_neq_f rfl rfl rfl (fun h => h rfl)) rfl rfl rfl ?_
  refine ExL.nil ?_
  refine Ex.cond_f rfl ?_
  refine Ex.skip ?_
  refine Ex.seq ?_
  refine Ex.regSeq (ExL.pures 3 rfl ?_)
  refine ExL.nil ?_
  refine Ex.block ?_
  refine Ex.loopK (X := Nat) (fun k => [(13, .int .i64 k)]) (fun k => []) (fun k => k ≤ s.length) (fun k => s.length - k) 0 [(0, _), (1, _), (12, _)] [] 0 [] ⟨rfl, trivial⟩ ⟨rfl, rfl, rfl, trivial⟩ (rfl) rfl (Nat.zero_le _) (fun k hI => ?_)
  have hI : k ≤ s.length := hI
  refine Ex.regSeq (ExL.pures 0 rfl ?_)
  refine ExL.lss rfl rfl rfl rfl rfl rfl (fun h1 => ?_) (fun h1 => ?_)
  · refine ExL.nil ?_
    refine Ex.seq ?_
    refine Ex.cond_t rfl ?_
    refine Ex.skip ?_
    refine Ex.seq ?_
    refine Ex.block ?_
    refine Ex.regSeq (ExL.pures 2 rfl ?_)
    refine ExL.nil ?_
    refine Ex.drawSeqM rfl ?_
    refine ExD.take (i := 0) rfl (by kernel_rfl) (pureVal_ok rfl) ((List.Sublist.refl _)) rfl rfl rfl ?_
    refine ExD.take (i := 1) rfl (by kernel_rfl) (pureVal_ok rfl) ((List.Sublist.refl _)) rfl rfl rfl ?_
    refine ExD.take (i := 2) rfl (by kernel_rfl) (fr_indexAddrF (Reads.old hs) encP_len rfl rfl rfl rfl rfl rfl (by omega)) ((List.Sublist.refl _)) rfl rfl rfl ?_
    refine ExD.take (i := 3) rfl (by kernel_rfl) (fr_loadN rfl rfl rfl rfl rfl (by first | exact segN (Reads.old hs) encP_len rfl zP (by omega) | exact segF (Reads.old hs) encP_len rfl zP (by omega))) ((List.Sublist.refl _)) rfl rfl rfl ?_
    refine ExD.take (i := 4) rfl (by kernel_rfl) (pureVal_ok rfl) ((List.Sublist.refl _)) rfl rfl rfl ?_
    refine ExD.take (i := 5) rfl (by kernel_rfl) (pureVal_ok rfl) ((List.Sublist.refl _)) rfl rfl rfl ?_
    refine ExD.take (i := 6) rfl (by kernel_rfl) (fr_indexAddrF (Reads.old ht) encP_len rfl rfl rfl rfl rfl rfl (by omega)) ((List.Sublist.refl _)) rfl rfl rfl ?_
    refine ExD.take (i := 7) rfl (by kernel_rfl) (fr_loadN rfl rfl rfl rfl rfl (by first | exact segN (Reads.old ht) encP_len rfl zP (by omega) | exact segF (Reads.old ht) encP_len rfl zP (by omega))) ((List.Sublist.refl _)) rfl rfl rfl ?_
    refine ExD.take (i := 8) rfl (by kernel_rfl) (fr_neq_rec (EqOk.as (eq_Ttl (s.getD k zP) (s.getD k zP)) (show _ = true by simp)) rfl rfl rfl (by kernel_rfl)) ((List.Sublist.refl _)) rfl rfl rfl ?_
    refine ExD.done (by kernel_rfl) ?_
    refine Ex.cond_f rfl ?_
    refine Ex.skip ?_
    refine Ex.region (ExL.pures 0 rfl ?_)
    refine ExL.free (by first | exact fr_add64 rfl rfl rfl (by omega) | exact fr_add rfl rfl rfl) rfl rfl rfl ?_
    refine ExL.pures 1 rfl ?_
    refine ExL.nil ?_
    refine Hand.mk (k + 1) 0 [] ⟨rfl, trivial⟩ ⟨rfl, rfl, rfl, trivial⟩ (rfl) rfl (by omega) (by omega)
  · refine ExL.nil ?_
    refine Ex.seq ?_
    refine Ex.cond_f rfl ?_
    refine Ex.exit ?_
    refine Ex.regSeq (ExL.pures 1 rfl ?_)
    refine ExL.nil ?_
    refine Ex.ret ?_
    refine RetQ.mk () rfl (.tmp rfl .nil) (rfl) [] (rfl) rfl (trivial)
theorem e_8 : Enters Tryz.prog 8 := Enters.of Tryz.func8 rfl
theorem c_iSameTotals (s : List VP) (As : Option Addr) (cs : Nat) (hls : s.length ≤ maxLen) (At : Option Addr) (ct : Nat) : Ret Tryz.prog 8 [.slice As s.length cs, .slice At s.length ct] (fun w => Rd w As (s.flatMap encP) ∧ Rd w At (s.flatMap encP)) (fun x : Unit => .bool true) (fun x => []) (fun x => True) := by
  refine Ret.of e_8 Tryz.func8 rfl Tryz.ntmps8 rfl rfl (fun w hpre => ?_)
  have hs := hpre.1.base
  have ht := hpre.2.base
  have hm0 : maxLen = 9223372036854775807 := rfl
  refine Ex.regSeq (ExL.pures 1 rfl ?_)
  refine ExL.nil ?_
  refine Ex.regSeq (ExL.pures 2 rfl ?_)
  refine ExL.op rfl (op_ret rfl rfl rfl (c_slEqualT s _ _ (by omega) _ _) (fun w hw => ⟨Reads.get (Reads.old hs) w hw, Reads.get (Reads.old ht) w hw⟩) rfl rfl (fun x1 hx1 => ?_))
  refine ExL.pures 1 rfl ?_
  refine ExL.nil ?_
  refine Ex.ret ?_
  refine RetQ.mk () rfl (.tmp rfl .nil) (rfl) [] (rfl) rfl (trivial)
theorem e_23 : Enters Tryz.prog 23 := Enters.of Tryz.func23 rfl
theorem c_SizeOf (s : List Int) (hv : validStack s = true) (hu : Nums 255 s) (As : Option Addr) (cs : Nat) : Ret Tryz.prog 23 [.slice As s.length cs] (fun w => Rd w As (s.flatMap (eI .u8))) (fun x : Unit => .tuple #[.int .i64 (size s), .int .i64 0]) (fun x => []) (fun x => True) := by
  refine Ret.of e_23 Tryz.func23 rfl Tryz.ntmps23 rfl rfl (fun w hpre => ?_)
  have hs := hpre.base
  have hS := stk hv
  have h8 := hS.len8
  have hm0 : maxLen = 9223372036854775807 := rfl
  refine Ex.regSeq (ExL.pures 2 rfl ?_)
  refine ExL.nil ?_
  refine Ex.seq ?_
  refine Ex.regSeq (ExL.pures 1 rfl ?_)
  refine ExL.op rfl (op_ret rfl rfl rfl (c_l01Ok _ (by assumption) _ _ (by first | assumption | omega | (unfold maxLen; omega))) (Reads.get (Reads.old hs)) rfl rfl (fun x1 hx1 => ?_))
  refine ExL.pures 1 rfl ?_
  refine ExL.nil ?_
  refine Ex.cond rfl (fun hb2 => ?_) (fun hb2 => ?_)
  · replace hb2 := nb_t hb2
    refine Ex.regSeq (ExL.pures 2 rfl ?_)
    refine ExL.nil ?_
    refine Ex.ret ?_
    refine RetQ.mk () rfl (.tmp rfl (.tmp rfl .nil)) (t2 (by first | rfl | (exfalso; simp_all; done)) (by first | rfl | (exfalso; simp_all; done))) [] (rfl) rfl (trivial)
  · replace hb2 := nb_f hb2
    refine Ex.skip ?_
    refine Ex.regSeq (ExL.pures 1 rfl ?_)
    refine ExL.op rfl (op_ret rfl rfl rfl (c_l01Size s (by assumption) _ _ (by first | assumption | omega | (unfold maxLen; omega) | decide)) (Reads.get (Reads.old hs)) rfl rfl (fun x3 hx3 => ?_))
    refine ExL.pures 2 rfl ?_
    refine ExL.nil ?_
    refine Ex.ret ?_
    refine RetQ.mk () rfl (.tmp rfl (.tmp rfl .nil)) (t2 (by first | rfl | (exfalso; simp_all; done)) (by first | rfl | (exfalso; simp_all; done))) [] (rfl) rfl (trivial)
end Go.Proofs.YtniimollalcjnaaGreatDoor

/- What these functions of the program hand back, each proved by walking its operations. -/
set_option linter.unusedVariables false
set_option linter.unusedSimpArgs false
set_option maxRecDepth 4000
namespace Go.Proofs.YtniimollalcjnaaGreatDoor
open Go Go.Sx Go.RowKit Go.W Go.Proofs
attribute [local irreducible] Ex ExL ExD Op1 Free RetQ MutQ Reads CellO SegO LoadsAs
theorem e_65 : Enters Tryz.prog 65 := Enters.of Tryz.func65 rfl
theorem c_one (code : List Int) (Ac : Option Addr) (cc : Nat) (hcl : code.length ≤ maxLen) (hcu : Nums 255 code) (b : Nat) (at_ sd : Int) (hat : 0 ≤ at_ ∧ at_ ≤ 1000000000) (n : Int) (hn : n ≤ 60000) : Mut Tryz.prog 65 [.pointer (some ⟨b, 0, none⟩), .int .i64 n] [.blk b [.slice Ac code.length cc, .int .i64 at_, .int .u64 sd] 93] (fun base w0 F => RdB base w0 Ac (code.flatMap (eI .u8))) (fun x : Bool × Int × Int => .bool x.1) (fun x => [.blk b [.slice Ac code.length cc, .int .i64 x.2.1, .int .u64 x.2.2] 93]) (fun x => at_ ≤ x.2.1 ∧ x.2.1 ≤ at_ + 2) := by
  refine Mut.of e_65 Tryz.func65 rfl Tryz.ntmps65 rfl rfl (fun base w0 F hfr => ?_)
  have hcode := hfr
  have hm0 : maxLen = 9223372036854775807 := rfl
  refine Ex.regSeq (ExL.pures 1 rfl ?_)
  refine ExL.nil ?_
  refine Ex.regSeq (ExL.pures 2 rfl ?_)
  refine ExL.op rfl (op_mut rfl rfl rfl (c_pick code _ _ (by omega) (by assumption) _ at_ _ (by omega) n (by omega)) (perm_at (i := 0) rfl) (hcode) rfl rfl (fun x1 hx1 => ?_))
  refine ExL.free (fr_eql rfl rfl rfl) rfl rfl rfl ?_
  refine ExL.pures 1 rfl ?_
  refine ExL.nil ?_
  refine Ex.ret ?_
  refine MutQ.mk (_, x1.2.1, x1.2.2) rfl (.tmp rfl .nil) (rfl) 1 [0] (rfl) rfl (by constructor <;> dsimp only <;> omega)
end Go.Proofs.YtniimollalcjnaaGreatDoor

/- What these functions of the program hand back, each proved by walking its operations. -/
set_option linter.unusedVariables false
set_option linter.unusedSimpArgs false
set_option maxRecDepth 4000
namespace Go.Proofs.YtniimollalcjnaaGreatDoor
open Go Go.Sx Go.RowKit Go.W Go.Proofs
attribute [local irreducible] Ex ExL ExD Op1 Free RetQ MutQ Reads CellO SegO LoadsAs
theorem e_48 : Enters Tryz.prog 48 := Enters.of Tryz.func48 rfl
set_option maxHeartbeats 1000000 in
theorem c_l04Drawn (code : List Int) (Ac : Option Addr) (cc : Nat) (hcl : code.length ≤ maxLen) (hcu : Nums 255 code) (b : Nat) (at_ sd : Int) (hat : 0 ≤ at_ ∧ at_ ≤ 500000) (f : VP) (hf : 0 ≤ f.a ∧ f.a ≤ 100) : Mut Tryz.prog 48 [.pointer (some ⟨b, 0, none⟩), .agg (encP f).toArray] [.blk b [.slice Ac code.length cc, .int .i64 at_, .int .u64 sd] 93] (fun base w0 F => RdB base w0 Ac (code.flatMap (eI .u8))) (fun x : (Int × Int) × ((Option Addr × Nat) × List Int) × ((Option Addr × Nat) × List VP) => .tuple #[.slice x.2.1.1.1 x.2.1.2.length x.2.1.1.2, .slice x.2.2.1.1 x.2.2.2.length x.2.2.1.2]) (fun x => [.blk b [.slice Ac code.length cc, .int .i64 x.1.1, .int .u64 x.1.2] 93, .row (.slice x.2.1.1.1 x.2.1.2.length x.2.1.1.2) 5 1 x.2.1.2.length (x.2.1.2.flatMap (eI .u8)), .row (.slice x.2.2.1.1 x.2.2.2.length x.2.2.1.2) 52 2 x.2.2.2.length (x.2.2.2.flatMap encP)]) (fun x => LgDr x.2.1.2 x.2.2.2) := by
  refine Mut.of e_48 Tryz.func48 rfl Tryz.ntmps48 rfl rfl (fun base w0 F hfr => ?_)
  have hcode := hfr
  have hm0 : maxLen = 9223372036854775807 := rfl
  refine Ex.regSeq (ExL.pures 0 rfl ?_)
  refine ExL.op rfl (op_box rfl rfl rfl rfl rfl (fun b1 => ?_))
  refine ExL.pures 2 rfl ?_
  refine ExL.nil ?_
  refine Ex.regSeq (ExL.pures 0 rfl ?_)
  refine ExL.op rfl (op_buildSlice (sz := 1) rfl rfl rfl rfl rfl rfl rfl rfl (by decide) rfl rfl rfl (fun r2 => ?_))
  refine ExL.pures 1 rfl ?_
  refine ExL.nil ?_
  refine Ex.seq ?_
  refine Ex.regSeq (ExL.pures 1 rfl ?_)
  refine ExL.op rfl (op_mut rfl rfl rfl (c_pick code _ _ (by omega) (by assumption) _ at_ _ (by omega) 4 (by omega)) (perm_at (i := 2) rfl) (hcode) rfl rfl (fun x3 hx3 => ?_))
  refine ExL.nil ?_
  refine Ex.block ?_
  refine Ex.regSeq (ExL.pures 0 rfl ?_)
  refine ExL.eql rfl rfl rfl rfl rfl rfl (fun h4 => ?_) (fun h4 => ?_)
  · refine ExL.pures 1 rfl ?_
    refine ExL.nil ?_
    refine Ex.cond_t rfl ?_
    refine Ex.region (ExL.pures 0 rfl ?_)
    refine ExL.op rfl (op_buildSlice (sz := 1) rfl rfl rfl rfl rfl rfl rfl rfl (by decide) rfl rfl rfl (fun r5 => ?_))
    refine ExL.pures 1 rfl ?_
    refine ExL.nil ?_
    obtain ⟨hn9, hv9, hz9⟩ := lg_b
    refine Ex.regSeq (ExL.pures 1 rfl ?_)
    refine ExL.op rfl (op_ret rfl rfl rfl (c_l01Size [10, 10, 10] (by assumption) _ _ (by first | assumption | omega | (unfold maxLen; omega) | decide)) (Reads.get (Reads.row (i := 0) rfl)) rfl rfl (fun x6 hx6 => ?_))
    refine ExL.pures 1 rfl ?_
    refine ExL.nil ?_
    rw [hz9]
    refine Ex.regSeq (ExL.pures 0 rfl ?_)
    refine ExL.op rfl (op_buildSlice (sz := 2) rfl rfl rfl rfl rfl rfl rfl rfl (by decide) rfl rfl rfl (fun r7 => ?_))
    refine ExL.pures 1 rfl ?_
    refine ExL.nil ?_
    refine Ex.regSeq (ExL.pures 1 rfl ?_)
    refine ExL.op rfl (op_mut rfl rfl rfl (c_pick code _ _ (by omega) (by assumption) _ x3.2.1 _ (by omega) 5 (by omega)) (perm_at (i := 2) rfl) (hcode) rfl rfl (fun x8 hx8 => ?_))
    refine ExL.pures 2 rfl ?_
    refine ExL.op rfl (op_mut rfl rfl rfl (c_pick code _ _ (by omega) (by assumption) _ x8.2.1 _ (by omega) 1000 (by omega)) (perm_at (i := 0) rfl) (hcode) rfl rfl (fun x9 hx9 => ?_))
    refine ExL.free (fr_build rfl rfl rfl rfl) rfl rfl rfl ?_
    refine ExL.op rfl (op_alloc rfl rfl rfl rfl rfl (fun b10 => ?_))
    refine ExL.op rfl (op_storeC (i := 0) rfl rfl rfl rfl rfl rfl rfl rfl rfl rfl ?_)
    refine ExL.nil ?_
    refine Ex.seq ?_
    refine Ex.regSeq (ExL.pures 1 rfl ?_)
    refine ExL.op rfl (op_mut rfl rfl rfl (c_pick code _ _ (by omega) (by assumption) _ x9.2.1 _ (by omega) 9 (by omega)) (perm_at (i := 1) rfl) (hcode) rfl rfl (fun x11 hx11 => ?_))
    refine ExL.pures 1 rfl ?_
    refine ExL.nil ?_
    refine Ex.block ?_
    refine Ex.loopK (X := DrS) (fun q => [(8, .slice q.A q.l.length q.c), (10, .int .i64 q.k)]) (fun q => [.blk b10 (encP q.p) 52, .blk b [.slice Ac code.length cc, .int .i64 q.at_, .int .u64 q.sd] 93, .row (.slice q.A q.l.length q.c) 52 2 q.l.length (q.l.flatMap encP)]) (fun q => LgP 1000 q.l q.p ∧ (q.l.length : Int) + q.k ≤ 8 ∧ 0 ≤ q.k ∧ at_ ≤ q.at_ ∧ q.at_ ≤ at_ + 8 + 12 * (q.l.length : Int)) (fun q => q.k.toNat) (⟨[], ⟨x8.1, x9.1⟩, x11.2.1, x11.2.2, x11.1, (some ⟨r7, 0, none⟩), 0⟩ : DrS) [(0, _), (3, _), (4, _), (5, _), (6, _), (7, _), (9, _)] (_ :: _ :: F) 6 [1, 0, 2, 3, 5] ⟨rfl, rfl, trivial⟩ ⟨rfl, rfl, rfl, rfl, rfl, rfl, rfl, trivial⟩ (rfl) rfl ⟨LgP.nil ⟨by dsimp only; omega, by dsimp only; omega⟩ ⟨by dsimp only; omega, by dsimp only; omega⟩, by dsimp only [List.length_nil]; omega, by dsimp only; omega, by dsimp only; omega, by dsimp only [List.length_nil]; omega⟩ (fun q hI => ?_)
    have hI : LgP 1000 q.l q.p ∧ (q.l.length : Int) + q.k ≤ 8 ∧ 0 ≤ q.k ∧ at_ ≤ q.at_ ∧ q.at_ ≤ at_ + 8 + 12 * (q.l.length : Int) := hI
    obtain ⟨hL, hlk, hk0, hat1, hat2⟩ := hI
    have hLa := hL.ra
    have hLb := hL.rb
    refine Ex.seq ?_
    refine Ex.regSeq (ExL.pures 1 rfl ?_)
    refine ExL.gtr rfl rfl rfl rfl rfl rfl (fun h12 => ?_) (fun h12 => ?_)
    · refine ExL.nil ?_
      refine Ex.cond_t rfl ?_
      refine Ex.skip ?_
      refine Ex.seq ?_
      refine Ex.block ?_
      refine Ex.regSeq (ExL.pures 0 rfl ?_)
      refine ExL.free (fr_loadN rfl rfl rfl rfl rfl (SegO.whole (i := 0) rfl)) rfl rfl rfl ?_
      refine ExL.op rfl (op_alloc rfl rfl rfl rfl rfl (fun b13 => ?_))
      refine ExL.op rfl (op_storeC (i := 0) rfl rfl rfl rfl rfl rfl rfl rfl rfl rfl ?_)
      refine ExL.nil ?_
      refine Ex.seq ?_
      refine Ex.regSeq (ExL.pures 1 rfl ?_)
      refine ExL.op rfl (op_mut rfl rfl rfl (c_one code _ _ (by omega) (by assumption) _ q.at_ _ (by omega) 6 (by omega)) (perm_at (i := 2) rfl) (hcode) rfl rfl (fun x14 hx14 => ?_))
      refine ExL.nil ?_
      refine Ex.cond rfl (fun hb15 => ?_) (fun hb15 => ?_)
      · refine Ex.region (ExL.pures 2 rfl ?_)
        refine ExL.op rfl (op_mut rfl rfl rfl (c_pick code _ _ (by omega) (by assumption) _ x14.2.1 _ (by omega) 1000 (by omega)) (perm_at (i := 0) rfl) (hcode) rfl rfl (fun x16 hx16 => ?_))
        refine ExL.pures 1 rfl ?_
        refine ExL.op rfl (op_storeC (i := 1) rfl rfl rfl rfl rfl rfl rfl rfl rfl rfl ?_)
        refine ExL.nil ?_
        refine Ex.regSeq (ExL.pures 1 rfl ?_)
        refine ExL.free (fr_loadN rfl rfl rfl rfl rfl (SegO.whole (i := 1) rfl)) rfl rfl rfl ?_
        refine ExL.op rfl (op_buildSlice (sz := 2) rfl rfl rfl rfl rfl rfl rfl rfl (by decide) rfl rfl rfl (fun r17 => ?_))
        refine ExL.op rfl (op_append (sz := 2) (bytes := 16) (i := 4) rfl rfl rfl rfl (Reads.row (i := 0) rfl) rfl (fun e => nomatch e) rfl rfl rfl rfl (by constructor <;> first | omega | (unfold maxLen; omega)) rfl rfl (fun A18 cA18 => ?_))
        refine ExL.pures 1 rfl ?_
        refine ExL.nil ?_
        refine Ex.regSeq (ExL.pures 1 rfl ?_)
        refine ExL.op rfl (op_mut rfl rfl rfl (c_pick code _ _ (by omega) (by assumption) _ x16.2.1 _ (by omega) 4 (by omega)) (perm_at (i := 1) rfl) (hcode) rfl rfl (fun x20 hx20 => ?_))
        refine ExL.free (by first | exact fr_add64 rfl rfl rfl (by omega) | exact fr_add rfl rfl rfl) rfl rfl rfl ?_
        refine ExL.pures 1 rfl ?_
        refine ExL.nil ?_
        refine Ex.regSeq (ExL.pures 1 rfl ?_)
        refine ExL.free (fr_load rfl rfl rfl rfl (CellO.blk (i := 3) rfl rfl)) rfl rfl rfl ?_
        refine ExL.pures 1 rfl ?_
        refine ExL.free (by first | exact fr_add64 rfl rfl rfl (by omega) | exact fr_add rfl rfl rfl) rfl rfl rfl ?_
        refine ExL.pures 1 rfl ?_
        refine ExL.op rfl (op_storeC (i := 3) rfl rfl rfl rfl rfl rfl rfl rfl rfl rfl ?_)
        refine ExL.nil ?_
        refine Ex.drawSeqI [1, 2, 3, 4, 5, 6] rfl rfl ?_
        refine ExD.take (i := 0) rfl (by kernel_rfl) (pureVal_ok rfl) ((List.Sublist.cons _ (List.Sublist.cons_cons _ (List.Sublist.cons_cons _ (List.Sublist.cons_cons _ (List.Sublist.cons_cons _ (List.Sublist.cons_cons _ (List.Sublist.cons_cons _ (List.nil_sublist _))))))))) rfl rfl rfl ?_
        refine ExD.take (i := 1) rfl (by kernel_rfl) (fr_load rfl rfl rfl rfl (CellO.blk (i := 2) rfl rfl)) ((List.Sublist.cons _ (List.Sublist.cons_cons _ (List.Sublist.cons_cons _ (List.Sublist.cons_cons _ (List.Sublist.cons_cons _ (List.Sublist.cons_cons _ (List.Sublist.cons_cons _ (List.nil_sublist _))))))))) rfl rfl rfl ?_
        refine ExD.take (i := 2) rfl (by kernel_rfl) (pureVal_ok rfl) ((List.Sublist.cons _ (List.Sublist.cons_cons _ (List.Sublist.cons_cons _ (List.Sublist.cons_cons _ (List.Sublist.cons_cons _ (List.Sublist.cons_cons _ (List.Sublist.cons_cons _ (List.nil_sublist _))))))))) rfl rfl rfl ?_
        refine ExD.take (i := 3) rfl (by kernel_rfl) (pureVal_ok rfl) ((List.Sublist.cons _ (List.Sublist.cons_cons _ (List.Sublist.cons_cons _ (List.Sublist.cons_cons _ (List.Sublist.cons_cons _ (List.Sublist.cons_cons _ (List.Sublist.cons_cons _ (List.nil_sublist _))))))))) rfl rfl rfl ?_
        refine ExD.take (i := 4) rfl (by kernel_rfl) (fr_load rfl rfl rfl rfl (CellO.blk (i := 5) rfl rfl)) ((List.Sublist.cons _ (List.Sublist.cons_cons _ (List.Sublist.cons_cons _ (List.Sublist.cons_cons _ (List.Sublist.cons_cons _ (List.Sublist.cons_cons _ (List.Sublist.cons_cons _ (List.nil_sublist _))))))))) rfl rfl rfl ?_
        refine ExD.take (i := 5) rfl (by kernel_rfl) (pureVal_ok rfl) ((List.Sublist.cons _ (List.Sublist.cons_cons _ (List.Sublist.cons_cons _ (List.Sublist.cons_cons _ (List.Sublist.cons_cons _ (List.Sublist.cons_cons _ (List.Sublist.cons_cons _ (List.nil_sublist _))))))))) rfl rfl rfl ?_
        refine ExD.take (i := 10) rfl (by kernel_rfl) (pureVal_ok rfl) ((List.Sublist.cons _ (List.Sublist.cons_cons _ (List.Sublist.cons_cons _ (List.Sublist.cons_cons _ (List.Sublist.cons_cons _ (List.Sublist.cons_cons _ (List.Sublist.cons_cons _ (List.nil_sublist _))))))))) rfl rfl rfl ?_
        refine ExD.op (i := 6) rfl (by kernel_rfl) rfl (op_mut rfl rfl rfl (c_pick code _ _ (by omega) (by assumption) _ x20.2.1 _ (by omega) 12 (by omega)) (perm_at (i := 0) rfl) (hcode) rfl rfl (fun x21 hx21 => ⟨(List.Sublist.cons _ (List.Sublist.cons_cons _ (List.Sublist.cons_cons _ (List.Sublist.cons_cons _ (List.Sublist.cons_cons _ (List.Sublist.cons_cons _ (List.Sublist.cons_cons _ (List.nil_sublist _)))))))), ?_⟩))
        have hpm := mul_small (a := (1 + x20.1)) (b := f.a + x21.1) (by omega) (by omega)
        refine ExD.take (i := 7) rfl (by kernel_rfl) (by first | exact fr_add64 rfl rfl rfl (by omega) | exact fr_add rfl rfl rfl) ((List.Sublist.cons _ (List.Sublist.cons_cons _ (List.Sublist.cons_cons _ (List.Sublist.cons_cons _ (List.Sublist.cons_cons _ (List.Sublist.cons_cons _ (List.Sublist.cons_cons _ (List.nil_sublist _))))))))) rfl rfl rfl ?_
        refine ExD.take (i := 8) rfl (by kernel_rfl) (by first | exact fr_mul64 rfl rfl rfl (by omega) | exact fr_mul rfl rfl rfl) ((List.Sublist.cons _ (List.Sublist.cons_cons _ (List.Sublist.cons_cons _ (List.Sublist.cons_cons _ (List.Sublist.cons_cons _ (List.Sublist.cons_cons _ (List.Sublist.cons_cons _ (List.nil_sublist _))))))))) rfl rfl rfl ?_
        refine ExD.take (i := 9) rfl (by kernel_rfl) (by first | exact fr_add64 rfl rfl rfl (by omega) | exact fr_add rfl rfl rfl) ((List.Sublist.cons _ (List.Sublist.cons_cons _ (List.Sublist.cons_cons _ (List.Sublist.cons_cons _ (List.Sublist.cons_cons _ (List.Sublist.cons_cons _ (List.Sublist.cons_cons _ (List.nil_sublist _))))))))) rfl rfl rfl ?_
        refine ExD.op (i := 11) rfl (by kernel_rfl) rfl (op_ret rfl rfl rfl (c_l04Mod _ _ (by omega) (by omega)) (fun _ _ => trivial) rfl rfl (fun x22 hx22 => ⟨(List.Sublist.cons _ (List.Sublist.cons_cons _ (List.Sublist.cons_cons _ (List.Sublist.cons_cons _ (List.Sublist.cons_cons _ (List.Sublist.cons_cons _ (List.Sublist.cons_cons _ (List.nil_sublist _)))))))), ?_⟩))
        refine ExD.take (i := 12) rfl (by kernel_rfl) (pureVal_ok rfl) ((List.Sublist.cons _ (List.Sublist.cons_cons _ (List.Sublist.cons_cons _ (List.Sublist.cons_cons _ (List.Sublist.cons_cons _ (List.Sublist.cons_cons _ (List.Sublist.cons_cons _ (List.nil_sublist _))))))))) rfl rfl rfl ?_
        refine ExD.last (i := 13) rfl (by kernel_rfl) (by kernel_rfl) rfl (op_storeC (i := 3) rfl rfl rfl rfl rfl rfl rfl rfl rfl rfl ?_)
        refine ExD.done (by kernel_rfl) ?_
        obtain ⟨rv, hrv⟩ : ∃ z : Int, ((q.p.b + (1 + x20.1) * (f.a + x21.1)) % 1000) = z := ⟨_, rfl⟩
        rw [hrv]
        have hrb : 0 ≤ rv ∧ rv < 1000 := by rw [← hrv]; exact ⟨Int.emod_nonneg _ (by omega), Int.emod_lt_of_pos _ (by omega)⟩
        refine Ex.regSeq (ExL.pures 1 rfl ?_)
        refine ExL.op rfl (op_mut rfl rfl rfl (c_one code _ _ (by omega) (by assumption) _ x21.2.1 _ (by omega) 8 (by omega)) (perm_at (i := 0) rfl) (hcode) rfl rfl (fun x23 hx23 => ?_))
        refine ExL.nil ?_
        refine Ex.cond rfl (fun hb24 => ?_) (fun hb24 => ?_)
        · refine Ex.region (ExL.pures 2 rfl ?_)
          refine ExL.op rfl (op_mut rfl rfl rfl (c_pick code _ _ (by omega) (by assumption) _ x23.2.1 _ (by omega) 1000 (by omega)) (perm_at (i := 0) rfl) (hcode) rfl rfl (fun x25 hx25 => ?_))
          refine ExL.pures 1 rfl ?_
          refine ExL.op rfl (op_storeC (i := 3) rfl rfl rfl rfl rfl rfl rfl rfl rfl rfl ?_)
          refine ExL.nil ?_
          refine Ex.region (ExL.pures 1 rfl ?_)
          refine ExL.free (by first | exact fr_sub64 rfl rfl rfl (by omega) | exact fr_sub rfl rfl rfl) rfl rfl rfl ?_
          refine ExL.pures 1 rfl ?_
          refine ExL.nil ?_
          refine Hand.mk (⟨q.l ++ [⟨q.p.a, x16.1⟩], ⟨(q.p.a + (1 + x20.1)), x25.1⟩, x25.2.1, x25.2.2, q.k - 1, A18, cA18⟩ : DrS) 7 [3, 0, 4, 5, 6] ⟨(by rw [List.length_append]; rfl), rfl, trivial⟩ ⟨rfl, rfl, rfl, rfl, rfl, rfl, rfl, trivial⟩ (by rw [List.length_append, List.flatMap_append]; rfl) rfl (⟨hL.next rfl ⟨by dsimp only; omega, by dsimp only; omega⟩ ⟨by dsimp only; omega, by dsimp only; omega⟩ ⟨by dsimp only; omega, by dsimp only; omega⟩, by dsimp only; rw [List.length_append, List.length_singleton]; omega, by dsimp only; omega, by dsimp only; omega, by dsimp only; rw [List.length_append, List.length_singleton]; push_cast; omega⟩) (by dsimp only; omega)
        · refine Ex.skip ?_
          refine Ex.region (ExL.pures 1 rfl ?_)
          refine ExL.free (by first | exact fr_sub64 rfl rfl rfl (by omega) | exact fr_sub rfl rfl rfl) rfl rfl rfl ?_
          refine ExL.pures 1 rfl ?_
          refine ExL.nil ?_
          refine Hand.mk (⟨q.l ++ [⟨q.p.a, x16.1⟩], ⟨(q.p.a + (1 + x20.1)), rv⟩, x23.2.1, x23.2.2, q.k - 1, A18, cA18⟩ : DrS) 7 [3, 0, 4, 5, 6] ⟨(by rw [List.length_append]; rfl), rfl, trivial⟩ ⟨rfl, rfl, rfl, rfl, rfl, rfl, rfl, trivial⟩ (by rw [List.length_append, List.flatMap_append]; rfl) rfl (⟨hL.next rfl ⟨by dsimp only; omega, by dsimp only; omega⟩ ⟨by dsimp only; omega, by dsimp only; omega⟩ ⟨by dsimp only; omega, by dsimp only; omega⟩, by dsimp only; rw [List.length_append, List.length_singleton]; omega, by dsimp only; omega, by dsimp only; omega, by dsimp only; rw [List.length_append, List.length_singleton]; push_cast; omega⟩) (by dsimp only; omega)
      · refine Ex.skip ?_
        refine Ex.regSeq (ExL.pures 1 rfl ?_)
        refine ExL.free (fr_loadN rfl rfl rfl rfl rfl (SegO.whole (i := 1) rfl)) rfl rfl rfl ?_
        refine ExL.op rfl (op_buildSlice (sz := 2) rfl rfl rfl rfl rfl rfl rfl rfl (by decide) rfl rfl rfl (fun r26 => ?_))
        refine ExL.op rfl (op_append (sz := 2) (bytes := 16) (i := 4) rfl rfl rfl rfl (Reads.row (i := 0) rfl) rfl (fun e => nomatch e) rfl rfl rfl rfl (by constructor <;> first | omega | (unfold maxLen; omega)) rfl rfl (fun A27 cA27 => ?_))
        refine ExL.pures 1 rfl ?_
        refine ExL.nil ?_
        refine Ex.regSeq (ExL.pures 1 rfl ?_)
        refine ExL.op rfl (op_mut rfl rfl rfl (c_pick code _ _ (by omega) (by assumption) _ x14.2.1 _ (by omega) 4 (by omega)) (perm_at (i := 1) rfl) (hcode) rfl rfl (fun x29 hx29 => ?_))
        refine ExL.free (by first | exact fr_add64 rfl rfl rfl (by omega) | exact fr_add rfl rfl rfl) rfl rfl rfl ?_
        refine ExL.pures 1 rfl ?_
        refine ExL.nil ?_
        refine Ex.regSeq (ExL.pures 1 rfl ?_)
        refine ExL.free (fr_load rfl rfl rfl rfl (CellO.blk (i := 3) rfl rfl)) rfl rfl rfl ?_
        refine ExL.pures 1 rfl ?_
        refine ExL.free (by first | exact fr_add64 rfl rfl rfl (by omega) | exact fr_add rfl rfl rfl) rfl rfl rfl ?_
        refine ExL.pures 1 rfl ?_
        refine ExL.op rfl (op_storeC (i := 3) rfl rfl rfl rfl rfl rfl rfl rfl rfl rfl ?_)
        refine ExL.nil ?_
        refine Ex.drawSeqI [1, 2, 3, 4, 5, 6] rfl rfl ?_
        refine ExD.take (i := 0) rfl (by kernel_rfl) (pureVal_ok rfl) ((List.Sublist.cons _ (List.Sublist.cons_cons _ (List.Sublist.cons_cons _ (List.Sublist.cons_cons _ (List.Sublist.cons_cons _ (List.Sublist.cons_cons _ (List.Sublist.cons_cons _ (List.nil_sublist _))))))))) rfl rfl rfl ?_
        refine ExD.take (i := 1) rfl (by kernel_rfl) (fr_load rfl rfl rfl rfl (CellO.blk (i := 2) rfl rfl)) ((List.Sublist.cons _ (List.Sublist.cons_cons _ (List.Sublist.cons_cons _ (List.Sublist.cons_cons _ (List.Sublist.cons_cons _ (List.Sublist.cons_cons _ (List.Sublist.cons_cons _ (List.nil_sublist _))))))))) rfl rfl rfl ?_
        refine ExD.take (i := 2) rfl (by kernel_rfl) (pureVal_ok rfl) ((List.Sublist.cons _ (List.Sublist.cons_cons _ (List.Sublist.cons_cons _ (List.Sublist.cons_cons _ (List.Sublist.cons_cons _ (List.Sublist.cons_cons _ (List.Sublist.cons_cons _ (List.nil_sublist _))))))))) rfl rfl rfl ?_
        refine ExD.take (i := 3) rfl (by kernel_rfl) (pureVal_ok rfl) ((List.Sublist.cons _ (List.Sublist.cons_cons _ (List.Sublist.cons_cons _ (List.Sublist.cons_cons _ (List.Sublist.cons_cons _ (List.Sublist.cons_cons _ (List.Sublist.cons_cons _ (List.nil_sublist _))))))))) rfl rfl rfl ?_
        refine ExD.take (i := 4) rfl (by kernel_rfl) (fr_load rfl rfl rfl rfl (CellO.blk (i := 5) rfl rfl)) ((List.Sublist.cons _ (List.Sublist.cons_cons _ (List.Sublist.cons_cons _ (List.Sublist.cons_cons _ (List.Sublist.cons_cons _ (List.Sublist.cons_cons _ (List.Sublist.cons_cons _ (List.nil_sublist _))))))))) rfl rfl rfl ?_
        refine ExD.take (i := 5) rfl (by kernel_rfl) (pureVal_ok rfl) ((List.Sublist.cons _ (List.Sublist.cons_cons _ (List.Sublist.cons_cons _ (List.Sublist.cons_cons _ (List.Sublist.cons_cons _ (List.Sublist.cons_cons _ (List.Sublist.cons_cons _ (List.nil_sublist _))))))))) rfl rfl rfl ?_
        refine ExD.take (i := 10) rfl (by kernel_rfl) (pureVal_ok rfl) ((List.Sublist.cons _ (List.Sublist.cons_cons _ (List.Sublist.cons_cons _ (List.Sublist.cons_cons _ (List.Sublist.cons_cons _ (List.Sublist.cons_cons _ (List.Sublist.cons_cons _ (List.nil_sublist _))))))))) rfl rfl rfl ?_
        refine ExD.op (i := 6) rfl (by kernel_rfl) rfl (op_mut rfl rfl rfl (c_pick code _ _ (by omega) (by assumption) _ x29.2.1 _ (by omega) 12 (by omega)) (perm_at (i := 0) rfl) (hcode) rfl rfl (fun x30 hx30 => ⟨(List.Sublist.cons _ (List.Sublist.cons_cons _ (List.Sublist.cons_cons _ (List.Sublist.cons_cons _ (List.Sublist.cons_cons _ (List.Sublist.cons_cons _ (List.Sublist.cons_cons _ (List.nil_sublist _)))))))), ?_⟩))
        have hpm := mul_small (a := (1 + x29.1)) (b := f.a + x30.1) (by omega) (by omega)
        refine ExD.take (i := 7) rfl (by kernel_rfl) (by first | exact fr_add64 rfl rfl rfl (by omega) | exact fr_add rfl rfl rfl) ((List.Sublist.cons _ (List.Sublist.cons_cons _ (List.Sublist.cons_cons _ (List.Sublist.cons_cons _ (List.Sublist.cons_cons _ (List.Sublist.cons_cons _ (List.Sublist.cons_cons _ (List.nil_sublist _))))))))) rfl rfl rfl ?_
        refine ExD.take (i := 8) rfl (by kernel_rfl) (by first | exact fr_mul64 rfl rfl rfl (by omega) | exact fr_mul rfl rfl rfl) ((List.Sublist.cons _ (List.Sublist.cons_cons _ (List.Sublist.cons_cons _ (List.Sublist.cons_cons _ (List.Sublist.cons_cons _ (List.Sublist.cons_cons _ (List.Sublist.cons_cons _ (List.nil_sublist _))))))))) rfl rfl rfl ?_
        refine ExD.take (i := 9) rfl (by kernel_rfl) (by first | exact fr_add64 rfl rfl rfl (by omega) | exact fr_add rfl rfl rfl) ((List.Sublist.cons _ (List.Sublist.cons_cons _ (List.Sublist.cons_cons _ (List.Sublist.cons_cons _ (List.Sublist.cons_cons _ (List.Sublist.cons_cons _ (List.Sublist.cons_cons _ (List.nil_sublist _))))))))) rfl rfl rfl ?_
        refine ExD.op (i := 11) rfl (by kernel_rfl) rfl (op_ret rfl rfl rfl (c_l04Mod _ _ (by omega) (by omega)) (fun _ _ => trivial) rfl rfl (fun x31 hx31 => ⟨(List.Sublist.cons _ (List.Sublist.cons_cons _ (List.Sublist.cons_cons _ (List.Sublist.cons_cons _ (List.Sublist.cons_cons _ (List.Sublist.cons_cons _ (List.Sublist.cons_cons _ (List.nil_sublist _)))))))), ?_⟩))
        refine ExD.take (i := 12) rfl (by kernel_rfl) (pureVal_ok rfl) ((List.Sublist.cons _ (List.Sublist.cons_cons _ (List.Sublist.cons_cons _ (List.Sublist.cons_cons _ (List.Sublist.cons_cons _ (List.Sublist.cons_cons _ (List.Sublist.cons_cons _ (List.nil_sublist _))))))))) rfl rfl rfl ?_
        refine ExD.last (i := 13) rfl (by kernel_rfl) (by kernel_rfl) rfl (op_storeC (i := 3) rfl rfl rfl rfl rfl rfl rfl rfl rfl rfl ?_)
        refine ExD.done (by kernel_rfl) ?_
        obtain ⟨rv, hrv⟩ : ∃ z : Int, ((q.p.b + (1 + x29.1) * (f.a + x30.1)) % 1000) = z := ⟨_, rfl⟩
        rw [hrv]
        have hrb : 0 ≤ rv ∧ rv < 1000 := by rw [← hrv]; exact ⟨Int.emod_nonneg _ (by omega), Int.emod_lt_of_pos _ (by omega)⟩
        refine Ex.regSeq (ExL.pures 1 rfl ?_)
        refine ExL.op rfl (op_mut rfl rfl rfl (c_one code _ _ (by omega) (by assumption) _ x30.2.1 _ (by omega) 8 (by omega)) (perm_at (i := 0) rfl) (hcode) rfl rfl (fun x32 hx32 => ?_))
        refine ExL.nil ?_
        refine Ex.cond rfl (fun hb33 => ?_) (fun hb33 => ?_)
        · refine Ex.region (ExL.pures 2 rfl ?_)
          refine ExL.op rfl (op_mut rfl rfl rfl (c_pick code _ _ (by omega) (by assumption) _ x32.2.1 _ (by omega) 1000 (by omega)) (perm_at (i := 0) rfl) (hcode) rfl rfl (fun x34 hx34 => ?_))
          refine ExL.pures 1 rfl ?_
          refine ExL.op rfl (op_storeC (i := 3) rfl rfl rfl rfl rfl rfl rfl rfl rfl rfl ?_)
          refine ExL.nil ?_
          refine Ex.region (ExL.pures 1 rfl ?_)
          refine ExL.free (by first | exact fr_sub64 rfl rfl rfl (by omega) | exact fr_sub rfl rfl rfl) rfl rfl rfl ?_
          refine ExL.pures 1 rfl ?_
          refine ExL.nil ?_
          refine Hand.mk (⟨q.l ++ [⟨q.p.a, q.p.b⟩], ⟨(q.p.a + (1 + x29.1)), x34.1⟩, x34.2.1, x34.2.2, q.k - 1, A27, cA27⟩ : DrS) 7 [3, 0, 4, 5, 6] ⟨(by rw [List.length_append]; rfl), rfl, trivial⟩ ⟨rfl, rfl, rfl, rfl, rfl, rfl, rfl, trivial⟩ (by rw [List.length_append, List.flatMap_append]; rfl) rfl (⟨hL.next rfl ⟨by dsimp only; omega, by dsimp only; omega⟩ ⟨by dsimp only; omega, by dsimp only; omega⟩ ⟨by dsimp only; omega, by dsimp only; omega⟩, by dsimp only; rw [List.length_append, List.length_singleton]; omega, by dsimp only; omega, by dsimp only; omega, by dsimp only; rw [List.length_append, List.length_singleton]; push_cast; omega⟩) (by dsimp only; omega)
        · refine Ex.skip ?_
          refine Ex.region (ExL.pures 1 rfl ?_)
          refine ExL.free (by first | exact fr_sub64 rfl rfl rfl (by omega) | exact fr_sub rfl rfl rfl) rfl rfl rfl ?_
          refine ExL.pures 1 rfl ?_
          refine ExL.nil ?_
          refine Hand.mk (⟨q.l ++ [⟨q.p.a, q.p.b⟩], ⟨(q.p.a + (1 + x29.1)), rv⟩, x32.2.1, x32.2.2, q.k - 1, A27, cA27⟩ : DrS) 7 [3, 0, 4, 5, 6] ⟨(by rw [List.length_append]; rfl), rfl, trivial⟩ ⟨rfl, rfl, rfl, rfl, rfl, rfl, rfl, trivial⟩ (by rw [List.length_append, List.flatMap_append]; rfl) rfl (⟨hL.next rfl ⟨by dsimp only; omega, by dsimp only; omega⟩ ⟨by dsimp only; omega, by dsimp only; omega⟩ ⟨by dsimp only; omega, by dsimp only; omega⟩, by dsimp only; rw [List.length_append, List.length_singleton]; omega, by dsimp only; omega, by dsimp only; omega, by dsimp only; rw [List.length_append, List.length_singleton]; push_cast; omega⟩) (by dsimp only; omega)
    · refine ExL.nil ?_
      refine Ex.cond_f rfl ?_
      refine Ex.exit ?_
      refine Ex.regSeq (ExL.pures 4 rfl ?_)
      refine ExL.nil ?_
      refine Ex.ret ?_
      refine MutQ.mk ((q.at_, q.sd), (((some ⟨r5, 0, none⟩), 3), [10, 10, 10]), ((q.A, q.c), q.l)) rfl (.tmp rfl (.tmp rfl .nil)) (rfl) 5 [1, 3, 2] (rfl) rfl (hL.dr hz9 hv9 hn9 (Nat.le_of_ble_eq_true rfl) (by omega) (by omega))
  · refine ExL.pures 1 rfl ?_
    refine ExL.nil ?_
    refine Ex.cond_f rfl ?_
    refine Ex.regSeq (ExL.pures 0 rfl ?_)
    refine ExL.eql rfl rfl rfl rfl rfl rfl (fun h35 => ?_) (fun h35 => ?_)
    · refine ExL.pures 1 rfl ?_
      refine ExL.nil ?_
      refine Ex.cond_t rfl ?_
      refine Ex.region (ExL.pures 0 rfl ?_)
      refine ExL.op rfl (op_buildSlice (sz := 1) rfl rfl rfl rfl rfl rfl rfl rfl (by decide) rfl rfl rfl (fun r36 => ?_))
      refine ExL.pures 1 rfl ?_
      refine ExL.nil ?_
      obtain ⟨hn9, hv9, hz9⟩ := lg_c
      refine Ex.regSeq (ExL.pures 1 rfl ?_)
      refine ExL.op rfl (op_ret rfl rfl rfl (c_l01Size [6, 4, 3] (by assumption) _ _ (by first | assumption | omega | (unfold maxLen; omega) | decide)) (Reads.get (Reads.row (i := 0) rfl)) rfl rfl (fun x37 hx37 => ?_))
      refine ExL.pures 1 rfl ?_
      refine ExL.nil ?_
      rw [hz9]
      refine Ex.regSeq (ExL.pures 0 rfl ?_)
      refine ExL.op rfl (op_buildSlice (sz := 2) rfl rfl rfl rfl rfl rfl rfl rfl (by decide) rfl rfl rfl (fun r38 => ?_))
      refine ExL.pures 1 rfl ?_
      refine ExL.nil ?_
      refine Ex.regSeq (ExL.pures 1 rfl ?_)
      refine ExL.op rfl (op_mut rfl rfl rfl (c_pick code _ _ (by omega) (by assumption) _ x3.2.1 _ (by omega) 5 (by omega)) (perm_at (i := 2) rfl) (hcode) rfl rfl (fun x39 hx39 => ?_))
      refine ExL.pures 2 rfl ?_
      refine ExL.op rfl (op_mut rfl rfl rfl (c_pick code _ _ (by omega) (by assumption) _ x39.2.1 _ (by omega) 72 (by omega)) (perm_at (i := 0) rfl) (hcode) rfl rfl (fun x40 hx40 => ?_))
      refine ExL.free (fr_build rfl rfl rfl rfl) rfl rfl rfl ?_
      refine ExL.op rfl (op_alloc rfl rfl rfl rfl rfl (fun b41 => ?_))
      refine ExL.op rfl (op_storeC (i := 0) rfl rfl rfl rfl rfl rfl rfl rfl rfl rfl ?_)
      refine ExL.nil ?_
      refine Ex.seq ?_
      refine Ex.regSeq (ExL.pures 1 rfl ?_)
      refine ExL.op rfl (op_mut rfl rfl rfl (c_pick code _ _ (by omega) (by assumption) _ x40.2.1 _ (by omega) 9 (by omega)) (perm_at (i := 1) rfl) (hcode) rfl rfl (fun x42 hx42 => ?_))
      refine ExL.pures 1 rfl ?_
      refine ExL.nil ?_
      refine Ex.block ?_
      refine Ex.loopK (X := DrS) (fun q => [(8, .slice q.A q.l.length q.c), (10, .int .i64 q.k)]) (fun q => [.blk b41 (encP q.p) 52, .blk b [.slice Ac code.length cc, .int .i64 q.at_, .int .u64 q.sd] 93, .row (.slice q.A q.l.length q.c) 52 2 q.l.length (q.l.flatMap encP)]) (fun q => LgP 72 q.l q.p ∧ (q.l.length : Int) + q.k ≤ 8 ∧ 0 ≤ q.k ∧ at_ ≤ q.at_ ∧ q.at_ ≤ at_ + 8 + 12 * (q.l.length : Int)) (fun q => q.k.toNat) (⟨[], ⟨x39.1, x40.1⟩, x42.2.1, x42.2.2, x42.1, (some ⟨r38, 0, none⟩), 0⟩ : DrS) [(0, _), (3, _), (4, _), (5, _), (6, _), (7, _), (9, _)] (_ :: _ :: F) 6 [1, 0, 2, 3, 5] ⟨rfl, rfl, trivial⟩ ⟨rfl, rfl, rfl, rfl, rfl, rfl, rfl, trivial⟩ (rfl) rfl ⟨LgP.nil ⟨by dsimp only; omega, by dsimp only; omega⟩ ⟨by dsimp only; omega, by dsimp only; omega⟩, by dsimp only [List.length_nil]; omega, by dsimp only; omega, by dsimp only; omega, by dsimp only [List.length_nil]; omega⟩ (fun q hI => ?_)
      have hI : LgP 72 q.l q.p ∧ (q.l.length : Int) + q.k ≤ 8 ∧ 0 ≤ q.k ∧ at_ ≤ q.at_ ∧ q.at_ ≤ at_ + 8 + 12 * (q.l.length : Int) := hI
      obtain ⟨hL, hlk, hk0, hat1, hat2⟩ := hI
      have hLa := hL.ra
      have hLb := hL.rb
      refine Ex.seq ?_
      refine Ex.regSeq (ExL.pures 1 rfl ?_)
      refine ExL.gtr rfl rfl rfl rfl rfl rfl (fun h43 => ?_) (fun h43 => ?_)
      · refine ExL.nil ?_
        refine Ex.cond_t rfl ?_
        refine Ex.skip ?_
        refine Ex.seq ?_
        refine Ex.block ?_
        refine Ex.regSeq (ExL.pures 0 rfl ?_)
        refine ExL.free (fr_loadN rfl rfl rfl rfl rfl (SegO.whole (i := 0) rfl)) rfl rfl rfl ?_
        refine ExL.op rfl (op_alloc rfl rfl rfl rfl rfl (fun b44 => ?_))
        refine ExL.op rfl (op_storeC (i := 0) rfl rfl rfl rfl rfl rfl rfl rfl rfl rfl ?_)
        refine ExL.nil ?_
        refine Ex.seq ?_
        refine Ex.regSeq (ExL.pures 1 rfl ?_)
        refine ExL.op rfl (op_mut rfl rfl rfl (c_one code _ _ (by omega) (by assumption) _ q.at_ _ (by omega) 6 (by omega)) (perm_at (i := 2) rfl) (hcode) rfl rfl (fun x45 hx45 => ?_))
        refine ExL.nil ?_
        refine Ex.cond rfl (fun hb46 => ?_) (fun hb46 => ?_)
        · refine Ex.region (ExL.pures 2 rfl ?_)
          refine ExL.op rfl (op_mut rfl rfl rfl (c_pick code _ _ (by omega) (by assumption) _ x45.2.1 _ (by omega) 72 (by omega)) (perm_at (i := 0) rfl) (hcode) rfl rfl (fun x47 hx47 => ?_))
          refine ExL.pures 1 rfl ?_
          refine ExL.op rfl (op_storeC (i := 1) rfl rfl rfl rfl rfl rfl rfl rfl rfl rfl ?_)
          refine ExL.nil ?_
          refine Ex.regSeq (ExL.pures 1 rfl ?_)
          refine ExL.free (fr_loadN rfl rfl rfl rfl rfl (SegO.whole (i := 1) rfl)) rfl rfl rfl ?_
          refine ExL.op rfl (op_buildSlice (sz := 2) rfl rfl rfl rfl rfl rfl rfl rfl (by decide) rfl rfl rfl (fun r48 => ?_))
          refine ExL.op rfl (op_append (sz := 2) (bytes := 16) (i := 4) rfl rfl rfl rfl (Reads.row (i := 0) rfl) rfl (fun e => nomatch e) rfl rfl rfl rfl (by constructor <;> first | omega | (unfold maxLen; omega)) rfl rfl (fun A49 cA49 => ?_))
          refine ExL.pures 1 rfl ?_
          refine ExL.nil ?_
          refine Ex.regSeq (ExL.pures 1 rfl ?_)
          refine ExL.op rfl (op_mut rfl rfl rfl (c_pick code _ _ (by omega) (by assumption) _ x47.2.1 _ (by omega) 4 (by omega)) (perm_at (i := 1) rfl) (hcode) rfl rfl (fun x51 hx51 => ?_))
          refine ExL.free (by first | exact fr_add64 rfl rfl rfl (by omega) | exact fr_add rfl rfl rfl) rfl rfl rfl ?_
          refine ExL.pures 1 rfl ?_
          refine ExL.nil ?_
          refine Ex.regSeq (ExL.pures 1 rfl ?_)
          refine ExL.free (fr_load rfl rfl rfl rfl (CellO.blk (i := 3) rfl rfl)) rfl rfl rfl ?_
          refine ExL.pures 1 rfl ?_
          refine ExL.free (by first | exact fr_add64 rfl rfl rfl (by omega) | exact fr_add rfl rfl rfl) rfl rfl rfl ?_
          refine ExL.pures 1 rfl ?_
          refine ExL.op rfl (op_storeC (i := 3) rfl rfl rfl rfl rfl rfl rfl rfl rfl rfl ?_)
          refine ExL.nil ?_
          refine Ex.drawSeqI [1, 2, 3, 4, 5, 6] rfl rfl ?_
          refine ExD.take (i := 0) rfl (by kernel_rfl) (pureVal_ok rfl) ((List.Sublist.cons _ (List.Sublist.cons_cons _ (List.Sublist.cons_cons _ (List.Sublist.cons_cons _ (List.Sublist.cons_cons _ (List.Sublist.cons_cons _ (List.Sublist.cons_cons _ (List.nil_sublist _))))))))) rfl rfl rfl ?_
          refine ExD.take (i := 1) rfl (by kernel_rfl) (fr_load rfl rfl rfl rfl (CellO.blk (i := 2) rfl rfl)) ((List.Sublist.cons _ (List.Sublist.cons_cons _ (List.Sublist.cons_cons _ (List.Sublist.cons_cons _ (List.Sublist.cons_cons _ (List.Sublist.cons_cons _ (List.Sublist.cons_cons _ (List.nil_sublist _))))))))) rfl rfl rfl ?_
          refine ExD.take (i := 2) rfl (by kernel_rfl) (pureVal_ok rfl) ((List.Sublist.cons _ (List.Sublist.cons_cons _ (List.Sublist.cons_cons _ (List.Sublist.cons_cons _ (List.Sublist.cons_cons _ (List.Sublist.cons_cons _ (List.Sublist.cons_cons _ (List.nil_sublist _))))))))) rfl rfl rfl ?_
          refine ExD.take (i := 3) rfl (by kernel_rfl) (pureVal_ok rfl) ((List.Sublist.cons _ (List.Sublist.cons_cons _ (List.Sublist.cons_cons _ (List.Sublist.cons_cons _ (List.Sublist.cons_cons _ (List.Sublist.cons_cons _ (List.Sublist.cons_cons _ (List.nil_sublist _))))))))) rfl rfl rfl ?_
          refine ExD.take (i := 4) rfl (by kernel_rfl) (fr_load rfl rfl rfl rfl (CellO.blk (i := 5) rfl rfl)) ((List.Sublist.cons _ (List.Sublist.cons_cons _ (List.Sublist.cons_cons _ (List.Sublist.cons_cons _ (List.Sublist.cons_cons _ (List.Sublist.cons_cons _ (List.Sublist.cons_cons _ (List.nil_sublist _))))))))) rfl rfl rfl ?_
          refine ExD.take (i := 5) rfl (by kernel_rfl) (pureVal_ok rfl) ((List.Sublist.cons _ (List.Sublist.cons_cons _ (List.Sublist.cons_cons _ (List.Sublist.cons_cons _ (List.Sublist.cons_cons _ (List.Sublist.cons_cons _ (List.Sublist.cons_cons _ (List.nil_sublist _))))))))) rfl rfl rfl ?_
          refine ExD.take (i := 10) rfl (by kernel_rfl) (pureVal_ok rfl) ((List.Sublist.cons _ (List.Sublist.cons_cons _ (List.Sublist.cons_cons _ (List.Sublist.cons_cons _ (List.Sublist.cons_cons _ (List.Sublist.cons_cons _ (List.Sublist.cons_cons _ (List.nil_sublist _))))))))) rfl rfl rfl ?_
          refine ExD.op (i := 6) rfl (by kernel_rfl) rfl (op_mut rfl rfl rfl (c_pick code _ _ (by omega) (by assumption) _ x51.2.1 _ (by omega) 12 (by omega)) (perm_at (i := 0) rfl) (hcode) rfl rfl (fun x52 hx52 => ⟨(List.Sublist.cons _ (List.Sublist.cons_cons _ (List.Sublist.cons_cons _ (List.Sublist.cons_cons _ (List.Sublist.cons_cons _ (List.Sublist.cons_cons _ (List.Sublist.cons_cons _ (List.nil_sublist _)))))))), ?_⟩))
          have hpm := mul_small (a := (1 + x51.1)) (b := f.a + x52.1) (by omega) (by omega)
          refine ExD.take (i := 7) rfl (by kernel_rfl) (by first | exact fr_add64 rfl rfl rfl (by omega) | exact fr_add rfl rfl rfl) ((List.Sublist.cons _ (List.Sublist.cons_cons _ (List.Sublist.cons_cons _ (List.Sublist.cons_cons _ (List.Sublist.cons_cons _ (List.Sublist.cons_cons _ (List.Sublist.cons_cons _ (List.nil_sublist _))))))))) rfl rfl rfl ?_
          refine ExD.take (i := 8) rfl (by kernel_rfl) (by first | exact fr_mul64 rfl rfl rfl (by omega) | exact fr_mul rfl rfl rfl) ((List.Sublist.cons _ (List.Sublist.cons_cons _ (List.Sublist.cons_cons _ (List.Sublist.cons_cons _ (List.Sublist.cons_cons _ (List.Sublist.cons_cons _ (List.Sublist.cons_cons _ (List.nil_sublist _))))))))) rfl rfl rfl ?_
          refine ExD.take (i := 9) rfl (by kernel_rfl) (by first | exact fr_add64 rfl rfl rfl (by omega) | exact fr_add rfl rfl rfl) ((List.Sublist.cons _ (List.Sublist.cons_cons _ (List.Sublist.cons_cons _ (List.Sublist.cons_cons _ (List.Sublist.cons_cons _ (List.Sublist.cons_cons _ (List.Sublist.cons_cons _ (List.nil_sublist _))))))))) rfl rfl rfl ?_
          refine ExD.op (i := 11) rfl (by kernel_rfl) rfl (op_ret rfl rfl rfl (c_l04Mod _ _ (by omega) (by omega)) (fun _ _ => trivial) rfl rfl (fun x53 hx53 => ⟨(List.Sublist.cons _ (List.Sublist.cons_cons _ (List.Sublist.cons_cons _ (List.Sublist.cons_cons _ (List.Sublist.cons_cons _ (List.Sublist.cons_cons _ (List.Sublist.cons_cons _ (List.nil_sublist _)))))))), ?_⟩))
          refine ExD.take (i := 12) rfl (by kernel_rfl) (pureVal_ok rfl) ((List.Sublist.cons _ (List.Sublist.cons_cons _ (List.Sublist.cons_cons _ (List.Sublist.cons_cons _ (List.Sublist.cons_cons _ (List.Sublist.cons_cons _ (List.Sublist.cons_cons _ (List.nil_sublist _))))))))) rfl rfl rfl ?_
          refine ExD.last (i := 13) rfl (by kernel_rfl) (by kernel_rfl) rfl (op_storeC (i := 3) rfl rfl rfl rfl rfl rfl rfl rfl rfl rfl ?_)
          refine ExD.done (by kernel_rfl) ?_
          obtain ⟨rv, hrv⟩ : ∃ z : Int, ((q.p.b + (1 + x51.1) * (f.a + x52.1)) % 72) = z := ⟨_, rfl⟩
          rw [hrv]
          have hrb : 0 ≤ rv ∧ rv < 72 := by rw [← hrv]; exact ⟨Int.emod_nonneg _ (by omega), Int.emod_lt_of_pos _ (by omega)⟩
          refine Ex.regSeq (ExL.pures 1 rfl ?_)
          refine ExL.op rfl (op_mut rfl rfl rfl (c_one code _ _ (by omega) (by assumption) _ x52.2.1 _ (by omega) 8 (by omega)) (perm_at (i := 0) rfl) (hcode) rfl rfl (fun x54 hx54 => ?_))
          refine ExL.nil ?_
          refine Ex.cond rfl (fun hb55 => ?_) (fun hb55 => ?_)
          · refine Ex.region (ExL.pures 2 rfl ?_)
            refine ExL.op rfl (op_mut rfl rfl rfl (c_pick code _ _ (by omega) (by assumption) _ x54.2.1 _ (by omega) 72 (by omega)) (perm_at (i := 0) rfl) (hcode) rfl rfl (fun x56 hx56 => ?_))
            refine ExL.pures 1 rfl ?_
            refine ExL.op rfl (op_storeC (i := 3) rfl rfl rfl rfl rfl rfl rfl rfl rfl rfl ?_)
            refine ExL.nil ?_
            refine Ex.region (ExL.pures 1 rfl ?_)
            refine ExL.free (by first | exact fr_sub64 rfl rfl rfl (by omega) | exact fr_sub rfl rfl rfl) rfl rfl rfl ?_
            refine ExL.pures 1 rfl ?_
            refine ExL.nil ?_
            refine Hand.mk (⟨q.l ++ [⟨q.p.a, x47.1⟩], ⟨(q.p.a + (1 + x51.1)), x56.1⟩, x56.2.1, x56.2.2, q.k - 1, A49, cA49⟩ : DrS) 7 [3, 0, 4, 5, 6] ⟨(by rw [List.length_append]; rfl), rfl, trivial⟩ ⟨rfl, rfl, rfl, rfl, rfl, rfl, rfl, trivial⟩ (by rw [List.length_append, List.flatMap_append]; rfl) rfl (⟨hL.next rfl ⟨by dsimp only; omega, by dsimp only; omega⟩ ⟨by dsimp only; omega, by dsimp only; omega⟩ ⟨by dsimp only; omega, by dsimp only; omega⟩, by dsimp only; rw [List.length_append, List.length_singleton]; omega, by dsimp only; omega, by dsimp only; omega, by dsimp only; rw [List.length_append, List.length_singleton]; push_cast; omega⟩) (by dsimp only; omega)
          · refine Ex.skip ?_
            refine Ex.region (ExL.pures 1 rfl ?_)
            refine ExL.free (by first | exact fr_sub64 rfl rfl rfl (by omega) | exact fr_sub rfl rfl rfl) rfl rfl rfl ?_
            refine ExL.pures 1 rfl ?_
            refine ExL.nil ?_
            refine Hand.mk (⟨q.l ++ [⟨q.p.a, x47.1⟩], ⟨(q.p.a + (1 + x51.1)), rv⟩, x54.2.1, x54.2.2, q.k - 1, A49, cA49⟩ : DrS) 7 [3, 0, 4, 5, 6] ⟨(by rw [List.length_append]; rfl), rfl, trivial⟩ ⟨rfl, rfl, rfl, rfl, rfl, rfl, rfl, trivial⟩ (by rw [List.length_append, List.flatMap_append]; rfl) rfl (⟨hL.next rfl ⟨by dsimp only; omega, by dsimp only; omega⟩ ⟨by dsimp only; omega, by dsimp only; omega⟩ ⟨by dsimp only; omega, by dsimp only; omega⟩, by dsimp only; rw [List.length_append, List.length_singleton]; omega, by dsimp only; omega, by dsimp only; omega, by dsimp only; rw [List.length_append, List.length_singleton]; push_cast; omega⟩) (by dsimp only; omega)
        · refine Ex.skip ?_
          refine Ex.regSeq (ExL.pures 1 rfl ?_)
          refine ExL.free (fr_loadN rfl rfl rfl rfl rfl (SegO.whole (i := 1) rfl)) rfl rfl rfl ?_
          refine ExL.op rfl (op_buildSlice (sz := 2) rfl rfl rfl rfl rfl rfl rfl rfl (by decide) rfl rfl rfl (fun r57 => ?_))
          refine ExL.op rfl (op_append (sz := 2) (bytes := 16) (i := 4) rfl rfl rfl rfl (Reads.row (i := 0) rfl) rfl (fun e => nomatch e) rfl rfl rfl rfl (by constructor <;> first | omega | (unfold maxLen; omega)) rfl rfl (fun A58 cA58 => ?_))
          refine ExL.pures 1 rfl ?_
          refine ExL.nil ?_
          refine Ex.regSeq (ExL.pures 1 rfl ?_)
          refine ExL.op rfl (op_mut rfl rfl rfl (c_pick code _ _ (by omega) (by assumption) _ x45.2.1 _ (by omega) 4 (by omega)) (perm_at (i := 1) rfl) (hcode) rfl rfl (fun x60 hx60 => ?_))
          refine ExL.free (by first | exact fr_add64 rfl rfl rfl (by omega) | exact fr_add rfl rfl rfl) rfl rfl rfl ?_
          refine ExL.pures 1 rfl ?_
          refine ExL.nil ?_
          refine Ex.regSeq (ExL.pures 1 rfl ?_)
          refine ExL.free (fr_load rfl rfl rfl rfl (CellO.blk (i := 3) rfl rfl)) rfl rfl rfl ?_
          refine ExL.pures 1 rfl ?_
          refine ExL.free (by first | exact fr_add64 rfl rfl rfl (by omega) | exact fr_add rfl rfl rfl) rfl rfl rfl ?_
          refine ExL.pures 1 rfl ?_
          refine ExL.op rfl (op_storeC (i := 3) rfl rfl rfl rfl rfl rfl rfl rfl rfl rfl ?_)
          refine ExL.nil ?_
          refine Ex.drawSeqI [1, 2, 3, 4, 5, 6] rfl rfl ?_
          refine ExD.take (i := 0) rfl (by kernel_rfl) (pureVal_ok rfl) ((List.Sublist.cons _ (List.Sublist.cons_cons _ (List.Sublist.cons_cons _ (List.Sublist.cons_cons _ (List.Sublist.cons_cons _ (List.Sublist.cons_cons _ (List.Sublist.cons_cons _ (List.nil_sublist _))))))))) rfl rfl rfl ?_
          refine ExD.take (i := 1) rfl (by kernel_rfl) (fr_load rfl rfl rfl rfl (CellO.blk (i := 2) rfl rfl)) ((List.Sublist.cons _ (List.Sublist.cons_cons _ (List.Sublist.cons_cons _ (List.Sublist.cons_cons _ (List.Sublist.cons_cons _ (List.Sublist.cons_cons _ (List.Sublist.cons_cons _ (List.nil_sublist _))))))))) rfl rfl rfl ?_
          refine ExD.take (i := 2) rfl (by kernel_rfl) (pureVal_ok rfl) ((List.Sublist.cons _ (List.Sublist.cons_cons _ (List.Sublist.cons_cons _ (List.Sublist.cons_cons _ (List.Sublist.cons_cons _ (List.Sublist.cons_cons _ (List.Sublist.cons_cons _ (List.nil_sublist _))))))))) rfl rfl rfl ?_
          refine ExD.take (i := 3) rfl (by kernel_rfl) (pureVal_ok rfl) ((List.Sublist.cons _ (List.Sublist.cons_cons _ (List.Sublist.cons_cons _ (List.Sublist.cons_cons _ (List.Sublist.cons_cons _ (List.Sublist.cons_cons _ (List.Sublist.cons_cons _ (List.nil_sublist _))))))))) rfl rfl rfl ?_
          refine ExD.take (i := 4) rfl (by kernel_rfl) (fr_load rfl rfl rfl rfl (CellO.blk (i := 5) rfl rfl)) ((List.Sublist.cons _ (List.Sublist.cons_cons _ (List.Sublist.cons_cons _ (List.Sublist.cons_cons _ (List.Sublist.cons_cons _ (List.Sublist.cons_cons _ (List.Sublist.cons_cons _ (List.nil_sublist _))))))))) rfl rfl rfl ?_
          refine ExD.take (i := 5) rfl (by kernel_rfl) (pureVal_ok rfl) ((List.Sublist.cons _ (List.Sublist.cons_cons _ (List.Sublist.cons_cons _ (List.Sublist.cons_cons _ (List.Sublist.cons_cons _ (List.Sublist.cons_cons _ (List.Sublist.cons_cons _ (List.nil_sublist _))))))))) rfl rfl rfl ?_
          refine ExD.take (i := 10) rfl (by kernel_rfl) (pureVal_ok rfl) ((List.Sublist.cons _ (List.Sublist.cons_cons _ (List.Sublist.cons_cons _ (List.Sublist.cons_cons _ (List.Sublist.cons_cons _ (List.Sublist.cons_cons _ (List.Sublist.cons_cons _ (List.nil_sublist _))))))))) rfl rfl rfl ?_
          refine ExD.op (i := 6) rfl (by kernel_rfl) rfl (op_mut rfl rfl rfl (c_pick code _ _ (by omega) (by assumption) _ x60.2.1 _ (by omega) 12 (by omega)) (perm_at (i := 0) rfl) (hcode) rfl rfl (fun x61 hx61 => ⟨(List.Sublist.cons _ (List.Sublist.cons_cons _ (List.Sublist.cons_cons _ (List.Sublist.cons_cons _ (List.Sublist.cons_cons _ (List.Sublist.cons_cons _ (List.Sublist.cons_cons _ (List.nil_sublist _)))))))), ?_⟩))
          have hpm := mul_small (a := (1 + x60.1)) (b := f.a + x61.1) (by omega) (by omega)
          refine ExD.take (i := 7) rfl (by kernel_rfl) (by first | exact fr_add64 rfl rfl rfl (by omega) | exact fr_add rfl rfl rfl) ((List.Sublist.cons _ (List.Sublist.cons_cons _ (List.Sublist.cons_cons _ (List.Sublist.cons_cons _ (List.Sublist.cons_cons _ (List.Sublist.cons_cons _ (List.Sublist.cons_cons _ (List.nil_sublist _))))))))) rfl rfl rfl ?_
          refine ExD.take (i := 8) rfl (by kernel_rfl) (by first | exact fr_mul64 rfl rfl rfl (by omega) | exact fr_mul rfl rfl rfl) ((List.Sublist.cons _ (List.Sublist.cons_cons _ (List.Sublist.cons_cons _ (List.Sublist.cons_cons _ (List.Sublist.cons_cons _ (List.Sublist.cons_cons _ (List.Sublist.cons_cons _ (List.nil_sublist _))))))))) rfl rfl rfl ?_
          refine ExD.take (i := 9) rfl (by kernel_rfl) (by first | exact fr_add64 rfl rfl rfl (by omega) | exact fr_add rfl rfl rfl) ((List.Sublist.cons _ (List.Sublist.cons_cons _ (List.Sublist.cons_cons _ (List.Sublist.cons_cons _ (List.Sublist.cons_cons _ (List.Sublist.cons_cons _ (List.Sublist.cons_cons _ (List.nil_sublist _))))))))) rfl rfl rfl ?_
          refine ExD.op (i := 11) rfl (by kernel_rfl) rfl (op_ret rfl rfl rfl (c_l04Mod _ _ (by omega) (by omega)) (fun _ _ => trivial) rfl rfl (fun x62 hx62 => ⟨(List.Sublist.cons _ (List.Sublist.cons_cons _ (List.Sublist.cons_cons _ (List.Sublist.cons_cons _ (List.Sublist.cons_cons _ (List.Sublist.cons_cons _ (List.Sublist.cons_cons _ (List.nil_sublist _)))))))), ?_⟩))
          refine ExD.take (i := 12) rfl (by kernel_rfl) (pureVal_ok rfl) ((List.Sublist.cons _ (List.Sublist.cons_cons _ (List.Sublist.cons_cons _ (List.Sublist.cons_cons _ (List.Sublist.cons_cons _ (List.Sublist.cons_cons _ (List.Sublist.cons_cons _ (List.nil_sublist _))))))))) rfl rfl rfl ?_
          refine ExD.last (i := 13) rfl (by kernel_rfl) (by kernel_rfl) rfl (op_storeC (i := 3) rfl rfl rfl rfl rfl rfl rfl rfl rfl rfl ?_)
          refine ExD.done (by kernel_rfl) ?_
          obtain ⟨rv, hrv⟩ : ∃ z : Int, ((q.p.b + (1 + x60.1) * (f.a + x61.1)) % 72) = z := ⟨_, rfl⟩
          rw [hrv]
          have hrb : 0 ≤ rv ∧ rv < 72 := by rw [← hrv]; exact ⟨Int.emod_nonneg _ (by omega), Int.emod_lt_of_pos _ (by omega)⟩
          refine Ex.regSeq (ExL.pures 1 rfl ?_)
          refine ExL.op rfl (op_mut rfl rfl rfl (c_one code _ _ (by omega) (by assumption) _ x61.2.1 _ (by omega) 8 (by omega)) (perm_at (i := 0) rfl) (hcode) rfl rfl (fun x63 hx63 => ?_))
          refine ExL.nil ?_
          refine Ex.cond rfl (fun hb64 => ?_) (fun hb64 => ?_)
          · refine Ex.region (ExL.pures 2 rfl ?_)
            refine ExL.op rfl (op_mut rfl rfl rfl (c_pick code _ _ (by omega) (by assumption) _ x63.2.1 _ (by omega) 72 (by omega)) (perm_at (i := 0) rfl) (hcode) rfl rfl (fun x65 hx65 => ?_))
            refine ExL.pures 1 rfl ?_
            refine ExL.op rfl (op_storeC (i := 3) rfl rfl rfl rfl rfl rfl rfl rfl rfl rfl ?_)
            refine ExL.nil ?_
            refine Ex.region (ExL.pures 1 rfl ?_)
            refine ExL.free (by first | exact fr_sub64 rfl rfl rfl (by omega) | exact fr_sub rfl rfl rfl) rfl rfl rfl ?_
            refine ExL.pures 1 rfl ?_
            refine ExL.nil ?_
            refine Hand.mk (⟨q.l ++ [⟨q.p.a, q.p.b⟩], ⟨(q.p.a + (1 + x60.1)), x65.1⟩, x65.2.1, x65.2.2, q.k - 1, A58, cA58⟩ : DrS) 7 [3, 0, 4, 5, 6] ⟨(by rw [List.length_append]; rfl), rfl, trivial⟩ ⟨rfl, rfl, rfl, rfl, rfl, rfl, rfl, trivial⟩ (by rw [List.length_append, List.flatMap_append]; rfl) rfl (⟨hL.next rfl ⟨by dsimp only; omega, by dsimp only; omega⟩ ⟨by dsimp only; omega, by dsimp only; omega⟩ ⟨by dsimp only; omega, by dsimp only; omega⟩, by dsimp only; rw [List.length_append, List.length_singleton]; omega, by dsimp only; omega, by dsimp only; omega, by dsimp only; rw [List.length_append, List.length_singleton]; push_cast; omega⟩) (by dsimp only; omega)
          · refine Ex.skip ?_
            refine Ex.region (ExL.pures 1 rfl ?_)
            refine ExL.free (by first | exact fr_sub64 rfl rfl rfl (by omega) | exact fr_sub rfl rfl rfl) rfl rfl rfl ?_
            refine ExL.pures 1 rfl ?_
            refine ExL.nil ?_
            refine Hand.mk (⟨q.l ++ [⟨q.p.a, q.p.b⟩], ⟨(q.p.a + (1 + x60.1)), rv⟩, x63.2.1, x63.2.2, q.k - 1, A58, cA58⟩ : DrS) 7 [3, 0, 4, 5, 6] ⟨(by rw [List.length_append]; rfl), rfl, trivial⟩ ⟨rfl, rfl, rfl, rfl, rfl, rfl, rfl, trivial⟩ (by rw [List.length_append, List.flatMap_append]; rfl) rfl (⟨hL.next rfl ⟨by dsimp only; omega, by dsimp only; omega⟩ ⟨by dsimp only; omega, by dsimp only; omega⟩ ⟨by dsimp only; omega, by dsimp only; omega⟩, by dsimp only; rw [List.length_append, List.length_singleton]; omega, by dsimp only; omega, by dsimp only; omega, by dsimp only; rw [List.length_append, List.length_singleton]; push_cast; omega⟩) (by dsimp only; omega)
      · refine ExL.nil ?_
        refine Ex.cond_f rfl ?_
        refine Ex.exit ?_
        refine Ex.regSeq (ExL.pures 4 rfl ?_)
        refine ExL.nil ?_
        refine Ex.ret ?_
        refine MutQ.mk ((q.at_, q.sd), (((some ⟨r36, 0, none⟩), 3), [6, 4, 3]), ((q.A, q.c), q.l)) rfl (.tmp rfl (.tmp rfl .nil)) (rfl) 5 [1, 3, 2] (rfl) rfl (hL.dr hz9 hv9 hn9 (Nat.le_of_ble_eq_true rfl) (by omega) (by omega))
    · refine ExL.pures 1 rfl ?_
      refine ExL.nil ?_
      refine Ex.cond_f rfl ?_
      refine Ex.skip ?_
      obtain ⟨hn9, hv9, hz9⟩ := lg_a
      refine Ex.regSeq (ExL.pures 1 rfl ?_)
      refine ExL.op rfl (op_ret rfl rfl rfl (c_l01Size [10, 10] (by assumption) _ _ (by first | assumption | omega | (unfold maxLen; omega) | decide)) (Reads.get (Reads.row (i := 1) rfl)) rfl rfl (fun x66 hx66 => ?_))
      refine ExL.pures 1 rfl ?_
      refine ExL.nil ?_
      rw [hz9]
      refine Ex.regSeq (ExL.pures 0 rfl ?_)
      refine ExL.op rfl (op_buildSlice (sz := 2) rfl rfl rfl rfl rfl rfl rfl rfl (by decide) rfl rfl rfl (fun r67 => ?_))
      refine ExL.pures 1 rfl ?_
      refine ExL.nil ?_
      refine Ex.regSeq (ExL.pures 1 rfl ?_)
      refine ExL.op rfl (op_mut rfl rfl rfl (c_pick code _ _ (by omega) (by assumption) _ x3.2.1 _ (by omega) 5 (by omega)) (perm_at (i := 1) rfl) (hcode) rfl rfl (fun x68 hx68 => ?_))
      refine ExL.pures 2 rfl ?_
      refine ExL.op rfl (op_mut rfl rfl rfl (c_pick code _ _ (by omega) (by assumption) _ x68.2.1 _ (by omega) 100 (by omega)) (perm_at (i := 0) rfl) (hcode) rfl rfl (fun x69 hx69 => ?_))
      refine ExL.free (fr_build rfl rfl rfl rfl) rfl rfl rfl ?_
      refine ExL.op rfl (op_alloc rfl rfl rfl rfl rfl (fun b70 => ?_))
      refine ExL.op rfl (op_storeC (i := 0) rfl rfl rfl rfl rfl rfl rfl rfl rfl rfl ?_)
      refine ExL.nil ?_
      refine Ex.seq ?_
      refine Ex.regSeq (ExL.pures 1 rfl ?_)
      refine ExL.op rfl (op_mut rfl rfl rfl (c_pick code _ _ (by omega) (by assumption) _ x69.2.1 _ (by omega) 9 (by omega)) (perm_at (i := 1) rfl) (hcode) rfl rfl (fun x71 hx71 => ?_))
      refine ExL.pures 1 rfl ?_
      refine ExL.nil ?_
      refine Ex.block ?_
      refine Ex.loopK (X := DrS) (fun q => [(8, .slice q.A q.l.length q.c), (10, .int .i64 q.k)]) (fun q => [.blk b70 (encP q.p) 52, .blk b [.slice Ac code.length cc, .int .i64 q.at_, .int .u64 q.sd] 93, .row (.slice q.A q.l.length q.c) 52 2 q.l.length (q.l.flatMap encP)]) (fun q => LgP 100 q.l q.p ∧ (q.l.length : Int) + q.k ≤ 8 ∧ 0 ≤ q.k ∧ at_ ≤ q.at_ ∧ q.at_ ≤ at_ + 8 + 12 * (q.l.length : Int)) (fun q => q.k.toNat) (⟨[], ⟨x68.1, x69.1⟩, x71.2.1, x71.2.2, x71.1, (some ⟨r67, 0, none⟩), 0⟩ : DrS) [(0, _), (3, _), (4, _), (5, _), (6, _), (7, _), (9, _)] (_ :: _ :: F) 5 [1, 0, 2, 3, 4] ⟨rfl, rfl, trivial⟩ ⟨rfl, rfl, rfl, rfl, rfl, rfl, rfl, trivial⟩ (rfl) rfl ⟨LgP.nil ⟨by dsimp only; omega, by dsimp only; omega⟩ ⟨by dsimp only; omega, by dsimp only; omega⟩, by dsimp only [List.length_nil]; omega, by dsimp only; omega, by dsimp only; omega, by dsimp only [List.length_nil]; omega⟩ (fun q hI => ?_)
      have hI : LgP 100 q.l q.p ∧ (q.l.length : Int) + q.k ≤ 8 ∧ 0 ≤ q.k ∧ at_ ≤ q.at_ ∧ q.at_ ≤ at_ + 8 + 12 * (q.l.length : Int) := hI
      obtain ⟨hL, hlk, hk0, hat1, hat2⟩ := hI
      have hLa := hL.ra
      have hLb := hL.rb
      refine Ex.seq ?_
      refine Ex.regSeq (ExL.pures 1 rfl ?_)
      refine ExL.gtr rfl rfl rfl rfl rfl rfl (fun h72 => ?_) (fun h72 => ?_)
      · refine ExL.nil ?_
        refine Ex.cond_t rfl ?_
        refine Ex.skip ?_
        refine Ex.seq ?_
        refine Ex.block ?_
        refine Ex.regSeq (ExL.pures 0 rfl ?_)
        refine ExL.free (fr_loadN rfl rfl rfl rfl rfl (SegO.whole (i := 0) rfl)) rfl rfl rfl ?_
        refine ExL.op rfl (op_alloc rfl rfl rfl rfl rfl (fun b73 => ?_))
        refine ExL.op rfl (op_storeC (i := 0) rfl rfl rfl rfl rfl rfl rfl rfl rfl rfl ?_)
        refine ExL.nil ?_
        refine Ex.seq ?_
        refine Ex.regSeq (ExL.pures 1 rfl ?_)
        refine ExL.op rfl (op_mut rfl rfl rfl (c_one code _ _ (by omega) (by assumption) _ q.at_ _ (by omega) 6 (by omega)) (perm_at (i := 2) rfl) (hcode) rfl rfl (fun x74 hx74 => ?_))
        refine ExL.nil ?_
        refine Ex.cond rfl (fun hb75 => ?_) (fun hb75 => ?_)
        · refine Ex.region (ExL.pures 2 rfl ?_)
          refine ExL.op rfl (op_mut rfl rfl rfl (c_pick code _ _ (by omega) (by assumption) _ x74.2.1 _ (by omega) 100 (by omega)) (perm_at (i := 0) rfl) (hcode) rfl rfl (fun x76 hx76 => ?_))
          refine ExL.pures 1 rfl ?_
          refine ExL.op rfl (op_storeC (i := 1) rfl rfl rfl rfl rfl rfl rfl rfl rfl rfl ?_)
          refine ExL.nil ?_
          refine Ex.regSeq (ExL.pures 1 rfl ?_)
          refine ExL.free (fr_loadN rfl rfl rfl rfl rfl (SegO.whole (i := 1) rfl)) rfl rfl rfl ?_
          refine ExL.op rfl (op_buildSlice (sz := 2) rfl rfl rfl rfl rfl rfl rfl rfl (by decide) rfl rfl rfl (fun r77 => ?_))
          refine ExL.op rfl (op_append (sz := 2) (bytes := 16) (i := 4) rfl rfl rfl rfl (Reads.row (i := 0) rfl) rfl (fun e => nomatch e) rfl rfl rfl rfl (by constructor <;> first | omega | (unfold maxLen; omega)) rfl rfl (fun A78 cA78 => ?_))
          refine ExL.pures 1 rfl ?_
          refine ExL.nil ?_
          refine Ex.regSeq (ExL.pures 1 rfl ?_)
          refine ExL.op rfl (op_mut rfl rfl rfl (c_pick code _ _ (by omega) (by assumption) _ x76.2.1 _ (by omega) 4 (by omega)) (perm_at (i := 1) rfl) (hcode) rfl rfl (fun x80 hx80 => ?_))
          refine ExL.free (by first | exact fr_add64 rfl rfl rfl (by omega) | exact fr_add rfl rfl rfl) rfl rfl rfl ?_
          refine ExL.pures 1 rfl ?_
          refine ExL.nil ?_
          refine Ex.regSeq (ExL.pures 1 rfl ?_)
          refine ExL.free (fr_load rfl rfl rfl rfl (CellO.blk (i := 3) rfl rfl)) rfl rfl rfl ?_
          refine ExL.pures 1 rfl ?_
          refine ExL.free (by first | exact fr_add64 rfl rfl rfl (by omega) | exact fr_add rfl rfl rfl) rfl rfl rfl ?_
          refine ExL.pures 1 rfl ?_
          refine ExL.op rfl (op_storeC (i := 3) rfl rfl rfl rfl rfl rfl rfl rfl rfl rfl ?_)
          refine ExL.nil ?_
          refine Ex.drawSeqI [1, 2, 3, 4, 5, 6] rfl rfl ?_
          refine ExD.take (i := 0) rfl (by kernel_rfl) (pureVal_ok rfl) ((List.Sublist.cons _ (List.Sublist.cons_cons _ (List.Sublist.cons_cons _ (List.Sublist.cons_cons _ (List.Sublist.cons_cons _ (List.Sublist.cons_cons _ (List.Sublist.cons_cons _ (List.nil_sublist _))))))))) rfl rfl rfl ?_
          refine ExD.take (i := 1) rfl (by kernel_rfl) (fr_load rfl rfl rfl rfl (CellO.blk (i := 2) rfl rfl)) ((List.Sublist.cons _ (List.Sublist.cons_cons _ (List.Sublist.cons_cons _ (List.Sublist.cons_cons _ (List.Sublist.cons_cons _ (List.Sublist.cons_cons _ (List.Sublist.cons_cons _ (List.nil_sublist _))))))))) rfl rfl rfl ?_
          refine ExD.take (i := 2) rfl (by kernel_rfl) (pureVal_ok rfl) ((List.Sublist.cons _ (List.Sublist.cons_cons _ (List.Sublist.cons_cons _ (List.Sublist.cons_cons _ (List.Sublist.cons_cons _ (List.Sublist.cons_cons _ (List.Sublist.cons_cons _ (List.nil_sublist _))))))))) rfl rfl rfl ?_
          refine ExD.take (i := 3) rfl (by kernel_rfl) (pureVal_ok rfl) ((List.Sublist.cons _ (List.Sublist.cons_cons _ (List.Sublist.cons_cons _ (List.Sublist.cons_cons _ (List.Sublist.cons_cons _ (List.Sublist.cons_cons _ (List.Sublist.cons_cons _ (List.nil_sublist _))))))))) rfl rfl rfl ?_
          refine ExD.take (i := 4) rfl (by kernel_rfl) (fr_load rfl rfl rfl rfl (CellO.blk (i := 5) rfl rfl)) ((List.Sublist.cons _ (List.Sublist.cons_cons _ (List.Sublist.cons_cons _ (List.Sublist.cons_cons _ (List.Sublist.cons_cons _ (List.Sublist.cons_cons _ (List.Sublist.cons_cons _ (List.nil_sublist _))))))))) rfl rfl rfl ?_
          refine ExD.take (i := 5) rfl (by kernel_rfl) (pureVal_ok rfl) ((List.Sublist.cons _ (List.Sublist.cons_cons _ (List.Sublist.cons_cons _ (List.Sublist.cons_cons _ (List.Sublist.cons_cons _ (List.Sublist.cons_cons _ (List.Sublist.cons_cons _ (List.nil_sublist _))))))))) rfl rfl rfl ?_
          refine ExD.take (i := 10) rfl (by kernel_rfl) (pureVal_ok rfl) ((List.Sublist.cons _ (List.Sublist.cons_cons _ (List.Sublist.cons_cons _ (List.Sublist.cons_cons _ (List.Sublist.cons_cons _ (List.Sublist.cons_cons _ (List.Sublist.cons_cons _ (List.nil_sublist _))))))))) rfl rfl rfl ?_
          refine ExD.op (i := 6) rfl (by kernel_rfl) rfl (op_mut rfl rfl rfl (c_pick code _ _ (by omega) (by assumption) _ x80.2.1 _ (by omega) 12 (by omega)) (perm_at (i := 0) rfl) (hcode) rfl rfl (fun x81 hx81 => ⟨(List.Sublist.cons _ (List.Sublist.cons_cons _ (List.Sublist.cons_cons _ (List.Sublist.cons_cons _ (List.Sublist.cons_cons _ (List.Sublist.cons_cons _ (List.Sublist.cons_cons _ (List.nil_sublist _)))))))), ?_⟩))
          have hpm := mul_small (a := (1 + x80.1)) (b := f.a + x81.1) (by omega) (by omega)
          refine ExD.take (i := 7) rfl (by kernel_rfl) (by first | exact fr_add64 rfl rfl rfl (by omega) | exact fr_add rfl rfl rfl) ((List.Sublist.cons _ (List.Sublist.cons_cons _ (List.Sublist.cons_cons _ (List.Sublist.cons_cons _ (List.Sublist.cons_cons _ (List.Sublist.cons_cons _ (List.Sublist.cons_cons _ (List.nil_sublist _))))))))) rfl rfl rfl ?_
          refine ExD.take (i := 8) rfl (by kernel_rfl) (by first | exact fr_mul64 rfl rfl rfl (by omega) | exact fr_mul rfl rfl rfl) ((List.Sublist.cons _ (List.Sublist.cons_cons _ (List.Sublist.cons_cons _ (List.Sublist.cons_cons _ (List.Sublist.cons_cons _ (List.Sublist.cons_cons _ (List.Sublist.cons_cons _ (List.nil_sublist _))))))))) rfl rfl rfl ?_
          refine ExD.take (i := 9) rfl (by kernel_rfl) (by first | exact fr_add64 rfl rfl rfl (by omega) | exact fr_add rfl rfl rfl) ((List.Sublist.cons _ (List.Sublist.cons_cons _ (List.Sublist.cons_cons _ (List.Sublist.cons_cons _ (List.Sublist.cons_cons _ (List.Sublist.cons_cons _ (List.Sublist.cons_cons _ (List.nil_sublist _))))))))) rfl rfl rfl ?_
          refine ExD.op (i := 11) rfl (by kernel_rfl) rfl (op_ret rfl rfl rfl (c_l04Mod _ _ (by omega) (by omega)) (fun _ _ => trivial) rfl rfl (fun x82 hx82 => ⟨(List.Sublist.cons _ (List.Sublist.cons_cons _ (List.Sublist.cons_cons _ (List.Sublist.cons_cons _ (List.Sublist.cons_cons _ (List.Sublist.cons_cons _ (List.Sublist.cons_cons _ (List.nil_sublist _)))))))), ?_⟩))
          refine ExD.take (i := 12) rfl (by kernel_rfl) (pureVal_ok rfl) ((List.Sublist.cons _ (List.Sublist.cons_cons _ (List.Sublist.cons_cons _ (List.Sublist.cons_cons _ (List.Sublist.cons_cons _ (List.Sublist.cons_cons _ (List.Sublist.cons_cons _ (List.nil_sublist _))))))))) rfl rfl rfl ?_
          refine ExD.last (i := 13) rfl (by kernel_rfl) (by kernel_rfl) rfl (op_storeC (i := 3) rfl rfl rfl rfl rfl rfl rfl rfl rfl rfl ?_)
          refine ExD.done (by kernel_rfl) ?_
          obtain ⟨rv, hrv⟩ : ∃ z : Int, ((q.p.b + (1 + x80.1) * (f.a + x81.1)) % 100) = z := ⟨_, rfl⟩
          rw [hrv]
          have hrb : 0 ≤ rv ∧ rv < 100 := by rw [← hrv]; exact ⟨Int.emod_nonneg _ (by omega), Int.emod_lt_of_pos _ (by omega)⟩
          refine Ex.regSeq (ExL.pures 1 rfl ?_)
          refine ExL.op rfl (op_mut rfl rfl rfl (c_one code _ _ (by omega) (by assumption) _ x81.2.1 _ (by omega) 8 (by omega)) (perm_at (i := 0) rfl) (hcode) rfl rfl (fun x83 hx83 => ?_))
          refine ExL.nil ?_
          refine Ex.cond rfl (fun hb84 => ?_) (fun hb84 => ?_)
          · refine Ex.region (ExL.pures 2 rfl ?_)
            refine ExL.op rfl (op_mut rfl rfl rfl (c_pick code _ _ (by omega) (by assumption) _ x83.2.1 _ (by omega) 100 (by omega)) (perm_at (i := 0) rfl) (hcode) rfl rfl (fun x85 hx85 => ?_))
            refine ExL.pures 1 rfl ?_
            refine ExL.op rfl (op_storeC (i := 3) rfl rfl rfl rfl rfl rfl rfl rfl rfl rfl ?_)
            refine ExL.nil ?_
            refine Ex.region (ExL.pures 1 rfl ?_)
            refine ExL.free (by first | exact fr_sub64 rfl rfl rfl (by omega) | exact fr_sub rfl rfl rfl) rfl rfl rfl ?_
            refine ExL.pures 1 rfl ?_
            refine ExL.nil ?_
            refine Hand.mk (⟨q.l ++ [⟨q.p.a, x76.1⟩], ⟨(q.p.a + (1 + x80.1)), x85.1⟩, x85.2.1, x85.2.2, q.k - 1, A78, cA78⟩ : DrS) 7 [3, 0, 4, 5, 6] ⟨(by rw [List.length_append]; rfl), rfl, trivial⟩ ⟨rfl, rfl, rfl, rfl, rfl, rfl, rfl, trivial⟩ (by rw [List.length_append, List.flatMap_append]; rfl) rfl (⟨hL.next rfl ⟨by dsimp only; omega, by dsimp only; omega⟩ ⟨by dsimp only; omega, by dsimp only; omega⟩ ⟨by dsimp only; omega, by dsimp only; omega⟩, by dsimp only; rw [List.length_append, List.length_singleton]; omega, by dsimp only; omega, by dsimp only; omega, by dsimp only; rw [List.length_append, List.length_singleton]; push_cast; omega⟩) (by dsimp only; omega)
          · refine Ex.skip ?_
            refine Ex.region (ExL.pures 1 rfl ?_)
            refine ExL.free (by first | exact fr_sub64 rfl rfl rfl (by omega) | exact fr_sub rfl rfl rfl) rfl rfl rfl ?_
            refine ExL.pures 1 rfl ?_
            refine ExL.nil ?_
            refine Hand.mk (⟨q.l ++ [⟨q.p.a, x76.1⟩], ⟨(q.p.a + (1 + x80.1)), rv⟩, x83.2.1, x83.2.2, q.k - 1, A78, cA78⟩ : DrS) 7 [3, 0, 4, 5, 6] ⟨(by rw [List.length_append]; rfl), rfl, trivial⟩ ⟨rfl, rfl, rfl, rfl, rfl, rfl, rfl, trivial⟩ (by rw [List.length_append, List.flatMap_append]; rfl) rfl (⟨hL.next rfl ⟨by dsimp only; omega, by dsimp only; omega⟩ ⟨by dsimp only; omega, by dsimp only; omega⟩ ⟨by dsimp only; omega, by dsimp only; omega⟩, by dsimp only; rw [List.length_append, List.length_singleton]; omega, by dsimp only; omega, by dsimp only; omega, by dsimp only; rw [List.length_append, List.length_singleton]; push_cast; omega⟩) (by dsimp only; omega)
        · refine Ex.skip ?_
          refine Ex.regSeq (ExL.pures 1 rfl ?_)
          refine ExL.free (fr_loadN rfl rfl rfl rfl rfl (SegO.whole (i := 1) rfl)) rfl rfl rfl ?_
          refine ExL.op rfl (op_buildSlice (sz := 2) rfl rfl rfl rfl rfl rfl rfl rfl (by decide) rfl rfl rfl (fun r86 => ?_))
          refine ExL.op rfl (op_append (sz := 2) (bytes := 16) (i := 4) rfl rfl rfl rfl (Reads.row (i := 0) rfl) rfl (fun e => nomatch e) rfl rfl rfl rfl (by constructor <;> first | omega | (unfold maxLen; omega)) rfl rfl (fun A87 cA87 => ?_))
          refine ExL.pures 1 rfl ?_
          refine ExL.nil ?_
          refine Ex.regSeq (ExL.pures 1 rfl ?_)
          refine ExL.op rfl (op_mut rfl rfl rfl (c_pick code _ _ (by omega) (by assumption) _ x74.2.1 _ (by omega) 4 (by omega)) (perm_at (i := 1) rfl) (hcode) rfl rfl (fun x89 hx89 => ?_))
          refine ExL.free (by first | exact fr_add64 rfl rfl rfl (by omega) | exact fr_add rfl rfl rfl) rfl rfl rfl ?_
          refine ExL.pures 1 rfl ?_
          refine ExL.nil ?_
          refine Ex.regSeq (ExL.pures 1 rfl ?_)
          refine ExL.free (fr_load rfl rfl rfl rfl (CellO.blk (i := 3) rfl rfl)) rfl rfl rfl ?_
          refine ExL.pures 1 rfl ?_
          refine ExL.free (by first | exact fr_add64 rfl rfl rfl (by omega) | exact fr_add rfl rfl rfl) rfl rfl rfl ?_
          refine ExL.pures 1 rfl ?_
          refine ExL.op rfl (op_storeC (i := 3) rfl rfl rfl rfl rfl rfl rfl rfl rfl rfl ?_)
          refine ExL.nil ?_
          refine Ex.drawSeqI [1, 2, 3, 4, 5, 6] rfl rfl ?_
          refine ExD.take (i := 0) rfl (by kernel_rfl) (pureVal_ok rfl) ((List.Sublist.cons _ (List.Sublist.cons_cons _ (List.Sublist.cons_cons _ (List.Sublist.cons_cons _ (List.Sublist.cons_cons _ (List.Sublist.cons_cons _ (List.Sublist.cons_cons _ (List.nil_sublist _))))))))) rfl rfl rfl ?_
          refine ExD.take (i := 1) rfl (by kernel_rfl) (fr_load rfl rfl rfl rfl (CellO.blk (i := 2) rfl rfl)) ((List.Sublist.cons _ (List.Sublist.cons_cons _ (List.Sublist.cons_cons _ (List.Sublist.cons_cons _ (List.Sublist.cons_cons _ (List.Sublist.cons_cons _ (List.Sublist.cons_cons _ (List.nil_sublist _))))))))) rfl rfl rfl ?_
          refine ExD.take (i := 2) rfl (by kernel_rfl) (pureVal_ok rfl) ((List.Sublist.cons _ (List.Sublist.cons_cons _ (List.Sublist.cons_cons _ (List.Sublist.cons_cons _ (List.Sublist.cons_cons _ (List.Sublist.cons_cons _ (List.Sublist.cons_cons _ (List.nil_sublist _))))))))) rfl rfl rfl ?_
          refine ExD.take (i := 3) rfl (by kernel_rfl) (pureVal_ok rfl) ((List.Sublist.cons _ (List.Sublist.cons_cons _ (List.Sublist.cons_cons _ (List.Sublist.cons_cons _ (List.Sublist.cons_cons _ (List.Sublist.cons_cons _ (List.Sublist.cons_cons _ (List.nil_sublist _))))))))) rfl rfl rfl ?_
          refine ExD.take (i := 4) rfl (by kernel_rfl) (fr_load rfl rfl rfl rfl (CellO.blk (i := 5) rfl rfl)) ((List.Sublist.cons _ (List.Sublist.cons_cons _ (List.Sublist.cons_cons _ (List.Sublist.cons_cons _ (List.Sublist.cons_cons _ (List.Sublist.cons_cons _ (List.Sublist.cons_cons _ (List.nil_sublist _))))))))) rfl rfl rfl ?_
          refine ExD.take (i := 5) rfl (by kernel_rfl) (pureVal_ok rfl) ((List.Sublist.cons _ (List.Sublist.cons_cons _ (List.Sublist.cons_cons _ (List.Sublist.cons_cons _ (List.Sublist.cons_cons _ (List.Sublist.cons_cons _ (List.Sublist.cons_cons _ (List.nil_sublist _))))))))) rfl rfl rfl ?_
          refine ExD.take (i := 10) rfl (by kernel_rfl) (pureVal_ok rfl) ((List.Sublist.cons _ (List.Sublist.cons_cons _ (List.Sublist.cons_cons _ (List.Sublist.cons_cons _ (List.Sublist.cons_cons _ (List.Sublist.cons_cons _ (List.Sublist.cons_cons _ (List.nil_sublist _))))))))) rfl rfl rfl ?_
          refine ExD.op (i := 6) rfl (by kernel_rfl) rfl (op_mut rfl rfl rfl (c_pick code _ _ (by omega) (by assumption) _ x89.2.1 _ (by omega) 12 (by omega)) (perm_at (i := 0) rfl) (hcode) rfl rfl (fun x90 hx90 => ⟨(List.Sublist.cons _ (List.Sublist.cons_cons _ (List.Sublist.cons_cons _ (List.Sublist.cons_cons _ (List.Sublist.cons_cons _ (List.Sublist.cons_cons _ (List.Sublist.cons_cons _ (List.nil_sublist _)))))))), ?_⟩))
          have hpm := mul_small (a := (1 + x89.1)) (b := f.a + x90.1) (by omega) (by omega)
          refine ExD.take (i := 7) rfl (by kernel_rfl) (by first | exact fr_add64 rfl rfl rfl (by omega) | exact fr_add rfl rfl rfl) ((List.Sublist.cons _ (List.Sublist.cons_cons _ (List.Sublist.cons_cons _ (List.Sublist.cons_cons _ (List.Sublist.cons_cons _ (List.Sublist.cons_cons _ (List.Sublist.cons_cons _ (List.nil_sublist _))))))))) rfl rfl rfl ?_
          refine ExD.take (i := 8) rfl (by kernel_rfl) (by first | exact fr_mul64 rfl rfl rfl (by omega) | exact fr_mul rfl rfl rfl) ((List.Sublist.cons _ (List.Sublist.cons_cons _ (List.Sublist.cons_cons _ (List.Sublist.cons_cons _ (List.Sublist.cons_cons _ (List.Sublist.cons_cons _ (List.Sublist.cons_cons _ (List.nil_sublist _))))))))) rfl rfl rfl ?_
          refine ExD.take (i := 9) rfl (by kernel_rfl) (by first | exact fr_add64 rfl rfl rfl (by omega) | exact fr_add rfl rfl rfl) ((List.Sublist.cons _ (List.Sublist.cons_cons _ (List.Sublist.cons_cons _ (List.Sublist.cons_cons _ (List.Sublist.cons_cons _ (List.Sublist.cons_cons _ (List.Sublist.cons_cons _ (List.nil_sublist _))))))))) rfl rfl rfl ?_
          refine ExD.op (i := 11) rfl (by kernel_rfl) rfl (op_ret rfl rfl rfl (c_l04Mod _ _ (by omega) (by omega)) (fun _ _ => trivial) rfl rfl (fun x91 hx91 => ⟨(List.Sublist.cons _ (List.Sublist.cons_cons _ (List.Sublist.cons_cons _ (List.Sublist.cons_cons _ (List.Sublist.cons_cons _ (List.Sublist.cons_cons _ (List.Sublist.cons_cons _ (List.nil_sublist _)))))))), ?_⟩))
          refine ExD.take (i := 12) rfl (by kernel_rfl) (pureVal_ok rfl) ((List.Sublist.cons _ (List.Sublist.cons_cons _ (List.Sublist.cons_cons _ (List.Sublist.cons_cons _ (List.Sublist.cons_cons _ (List.Sublist.cons_cons _ (List.Sublist.cons_cons _ (List.nil_sublist _))))))))) rfl rfl rfl ?_
          refine ExD.last (i := 13) rfl (by kernel_rfl) (by kernel_rfl) rfl (op_storeC (i := 3) rfl rfl rfl rfl rfl rfl rfl rfl rfl rfl ?_)
          refine ExD.done (by kernel_rfl) ?_
          obtain ⟨rv, hrv⟩ : ∃ z : Int, ((q.p.b + (1 + x89.1) * (f.a + x90.1)) % 100) = z := ⟨_, rfl⟩
          rw [hrv]
          have hrb : 0 ≤ rv ∧ rv < 100 := by rw [← hrv]; exact ⟨Int.emod_nonneg _ (by omega), Int.emod_lt_of_pos _ (by omega)⟩
          refine Ex.regSeq (ExL.pures 1 rfl ?_)
          refine ExL.op rfl (op_mut rfl rfl rfl (c_one code _ _ (by omega) (by assumption) _ x90.2.1 _ (by omega) 8 (by omega)) (perm_at (i := 0) rfl) (hcode) rfl rfl (fun x92 hx92 => ?_))
          refine ExL.nil ?_
          refine Ex.cond rfl (fun hb93 => ?_) (fun hb93 => ?_)
          · refine Ex.region (ExL.pures 2 rfl ?_)
            refine ExL.op rfl (op_mut rfl rfl rfl (c_pick code _ _ (by omega) (by assumption) _ x92.2.1 _ (by omega) 100 (by omega)) (perm_at (i := 0) rfl) (hcode) rfl rfl (fun x94 hx94 => ?_))
            refine ExL.pures 1 rfl ?_
            refine ExL.op rfl (op_storeC (i := 3) rfl rfl rfl rfl rfl rfl rfl rfl rfl rfl ?_)
            refine ExL.nil ?_
            refine Ex.region (ExL.pures 1 rfl ?_)
            refine ExL.free (by first | exact fr_sub64 rfl rfl rfl (by omega) | exact fr_sub rfl rfl rfl) rfl rfl rfl ?_
            refine ExL.pures 1 rfl ?_
            refine ExL.nil ?_
            refine Hand.mk (⟨q.l ++ [⟨q.p.a, q.p.b⟩], ⟨(q.p.a + (1 + x89.1)), x94.1⟩, x94.2.1, x94.2.2, q.k - 1, A87, cA87⟩ : DrS) 7 [3, 0, 4, 5, 6] ⟨(by rw [List.length_append]; rfl), rfl, trivial⟩ ⟨rfl, rfl, rfl, rfl, rfl, rfl, rfl, trivial⟩ (by rw [List.length_append, List.flatMap_append]; rfl) rfl (⟨hL.next rfl ⟨by dsimp only; omega, by dsimp only; omega⟩ ⟨by dsimp only; omega, by dsimp only; omega⟩ ⟨by dsimp only; omega, by dsimp only; omega⟩, by dsimp only; rw [List.length_append, List.length_singleton]; omega, by dsimp only; omega, by dsimp only; omega, by dsimp only; rw [List.length_append, List.length_singleton]; push_cast; omega⟩) (by dsimp only; omega)
          · refine Ex.skip ?_
            refine Ex.region (ExL.pures 1 rfl ?_)
            refine ExL.free (by first | exact fr_sub64 rfl rfl rfl (by omega) | exact fr_sub rfl rfl rfl) rfl rfl rfl ?_
            refine ExL.pures 1 rfl ?_
            refine ExL.nil ?_
            refine Hand.mk (⟨q.l ++ [⟨q.p.a, q.p.b⟩], ⟨(q.p.a + (1 + x89.1)), rv⟩, x92.2.1, x92.2.2, q.k - 1, A87, cA87⟩ : DrS) 7 [3, 0, 4, 5, 6] ⟨(by rw [List.length_append]; rfl), rfl, trivial⟩ ⟨rfl, rfl, rfl, rfl, rfl, rfl, rfl, trivial⟩ (by rw [List.length_append, List.flatMap_append]; rfl) rfl (⟨hL.next rfl ⟨by dsimp only; omega, by dsimp only; omega⟩ ⟨by dsimp only; omega, by dsimp only; omega⟩ ⟨by dsimp only; omega, by dsimp only; omega⟩, by dsimp only; rw [List.length_append, List.length_singleton]; omega, by dsimp only; omega, by dsimp only; omega, by dsimp only; rw [List.length_append, List.length_singleton]; push_cast; omega⟩) (by dsimp only; omega)
      · refine ExL.nil ?_
        refine Ex.cond_f rfl ?_
        refine Ex.exit ?_
        refine Ex.regSeq (ExL.pures 4 rfl ?_)
        refine ExL.nil ?_
        refine Ex.ret ?_
        refine MutQ.mk ((q.at_, q.sd), (((some ⟨r2, 0, none⟩), 2), [10, 10]), ((q.A, q.c), q.l)) rfl (.tmp rfl (.tmp rfl .nil)) (rfl) 5 [1, 3, 2] (rfl) rfl (hL.dr hz9 hv9 hn9 (Nat.le_of_ble_eq_true rfl) (by omega) (by omega))
theorem e_20 : Enters Tryz.prog 20 := Enters.of Tryz.func20 rfl
theorem c_A2Log (code : List Int) (Ac : Option Addr) (cc : Nat) (hcl : code.length ≤ maxLen) (hcu : Nums 255 code) : Ret Tryz.prog 20 [.slice Ac code.length cc] (fun w => Rd w Ac (code.flatMap (eI .u8))) (fun x : ((Option Addr × Nat) × List Int) × ((Option Addr × Nat) × List VP) × VP => .tuple #[.slice x.1.1.1 x.1.2.length x.1.1.2, .slice x.2.1.1.1 x.2.1.2.length x.2.1.1.2, .agg (encP x.2.2).toArray]) (fun x => [.row (.slice x.1.1.1 x.1.2.length x.1.1.2) 5 1 x.1.2.length (x.1.2.flatMap (eI .u8)), .row (.slice x.2.1.1.1 x.2.1.2.length x.2.1.1.2) 52 2 x.2.1.2.length (x.2.1.2.flatMap encP)]) (fun x => LgDr x.1.2 x.2.1.2) := by
  refine Ret.of e_20 Tryz.func20 rfl Tryz.ntmps20 rfl rfl (fun w hpre => ?_)
  have hcode := hpre.base
  have hm0 : maxLen = 9223372036854775807 := rfl
  refine Ex.regSeq (ExL.pures 2 rfl ?_)
  refine ExL.op rfl (op_alloc rfl rfl rfl rfl rfl (fun b1 => ?_))
  refine ExL.nil ?_
  refine Ex.regSeq (ExL.pures 1 rfl ?_)
  refine ExL.op rfl (op_ret rfl rfl rfl (c_l00From code _ _) (fun _ _ => trivial) rfl rfl (fun x2 hx2 => ?_))
  refine ExL.pures 1 rfl ?_
  refine ExL.nil ?_
  refine Ex.regSeq (ExL.pures 1 rfl ?_)
  refine ExL.op rfl (op_mut rfl rfl rfl (c_pick code _ _ (by omega) (by assumption) _ 0 _ (by omega) 6 (by omega)) (perm_at (i := 0) rfl) (hcode) rfl rfl (fun x3 hx3 => ?_))
  refine ExL.free (fr_build rfl rfl rfl rfl) rfl rfl rfl ?_
  refine ExL.op rfl (op_alloc rfl rfl rfl rfl rfl (fun b4 => ?_))
  refine ExL.op rfl (op_storeC (i := 0) rfl rfl rfl rfl rfl rfl rfl rfl rfl rfl ?_)
  refine ExL.nil ?_
  refine Ex.drawSeqI [0, 2] rfl rfl ?_
  refine ExD.take (i := 0) rfl (by kernel_rfl) (pureVal_ok rfl) ((List.Sublist.cons_cons _ (List.Sublist.cons _ (List.Sublist.refl _)))) rfl rfl rfl ?_
  refine ExD.take (i := 1) rfl (by kernel_rfl) (fr_load rfl rfl rfl rfl (CellO.blk (i := 0) rfl rfl)) ((List.Sublist.cons_cons _ (List.Sublist.cons _ (List.Sublist.refl _)))) rfl rfl rfl ?_
  refine ExD.take (i := 2) rfl (by kernel_rfl) (pureVal_ok rfl) ((List.Sublist.cons_cons _ (List.Sublist.cons _ (List.Sublist.refl _)))) rfl rfl rfl ?_
  refine ExD.op (i := 3) rfl (by kernel_rfl) rfl (op_mut rfl rfl rfl (c_pick code _ _ (by omega) (by assumption) _ x3.2.1 _ (by omega) 12 (by omega)) (perm_at (i := 1) rfl) (hcode) rfl rfl (fun x5 hx5 => ⟨(List.Sublist.cons _ (List.Sublist.refl _)), ?_⟩))
  refine ExD.take (i := 4) rfl (by kernel_rfl) (by first | exact fr_add64 rfl rfl rfl (by omega) | exact fr_add rfl rfl rfl) ((List.Sublist.cons _ (List.Sublist.refl _))) rfl rfl rfl ?_
  refine ExD.take (i := 5) rfl (by kernel_rfl) (pureVal_ok rfl) ((List.Sublist.cons _ (List.Sublist.refl _))) rfl rfl rfl ?_
  refine ExD.last (i := 6) rfl (by kernel_rfl) (by kernel_rfl) rfl (op_storeC (i := 1) rfl rfl rfl rfl rfl rfl rfl rfl rfl rfl ?_)
  refine ExD.done (by kernel_rfl) ?_
  refine Ex.regSeq (ExL.pures 1 rfl ?_)
  refine ExL.free (fr_loadN rfl rfl rfl rfl rfl (SegO.whole (i := 1) rfl)) rfl rfl rfl ?_
  refine ExL.op rfl (op_mut rfl rfl rfl (c_l04Drawn code _ _ (by omega) (by assumption) _ x5.2.1 _ (by omega) (⟨x3.1, (x3.1 + x5.1)⟩ : VP) (by dsimp only; omega)) (perm_at (i := 0) rfl) (hcode) rfl rfl (fun x6 hx6 => ?_))
  refine ExL.pures 5 rfl ?_
  refine ExL.nil ?_
  refine Ex.drawSeqM rfl ?_
  refine ExD.take (i := 0) rfl (by kernel_rfl) (pureVal_ok rfl) ((List.Sublist.refl _)) rfl rfl rfl ?_
  refine ExD.take (i := 1) rfl (by kernel_rfl) (pureVal_ok rfl) ((List.Sublist.refl _)) rfl rfl rfl ?_
  refine ExD.take (i := 2) rfl (by kernel_rfl) (fr_loadN rfl rfl rfl rfl rfl (SegO.whole (i := 3) rfl)) ((List.Sublist.refl _)) rfl rfl rfl ?_
  refine ExD.take (i := 3) rfl (by kernel_rfl) (pureVal_ok rfl) ((List.Sublist.refl _)) rfl rfl rfl ?_
  refine ExD.take (i := 4) rfl (by kernel_rfl) (pureVal_ok rfl) ((List.Sublist.refl _)) rfl rfl rfl ?_
  refine ExD.last (i := 5) rfl (by kernel_rfl) (by kernel_rfl) rfl (op_storeC (i := 4) rfl rfl rfl rfl rfl rfl rfl rfl rfl rfl ?_)
  refine ExD.done (by kernel_rfl) ?_
  refine Ex.ret ?_
  refine RetQ.mk (((x6.2.1.1.1, x6.2.1.1.2), x6.2.1.2), ((x6.2.2.1.1, x6.2.2.1.2), x6.2.2.2), ⟨x3.1, (x3.1 + x5.1)⟩) rfl (.tmp rfl (.tmp rfl (.cell rfl (.many rfl rfl rfl (SegO.whole (i := 4) rfl)) .nil))) (rfl) [1, 2] (rfl) rfl ((by assumption : LgDr _ _))
end Go.Proofs.YtniimollalcjnaaGreatDoor

/- A byte of a string; pieces of a string. -/
set_option linter.unusedVariables false
set_option linter.unusedSimpArgs false
namespace Go.Sx
open Go Go.RowKit
variable {C : Cx} {env env' : Env} {m m' : List Ent} {o : Oper} {K : Env → List Ent → Prop}
theorem fr_indexS {S x y k} {l : List UInt8} {i : Int} (j : Nat) (ho : o.op = .index S x y) (hx : ev env x = some (sv l)) (hy : ev env y = some (.int k i)) (hS : C.P.underlying S = some .string) (hi : i = (j : Nat)) (hj : j < l.length) : Free C o env m (.int .u8 ((l.getD j 0).toNat : Int)) := by
  subst hi
  intro a w hr hw
  have h := run_index_string (P := C.P) w S ⟨l.toArray⟩ k (j : Int) hS
  rw [dif_pos ⟨by omega, by rw [sv_size]; omega⟩] at h
  have e : (⟨l.toArray⟩ : ByteArray)[((j : Nat) : Int).toNat]'(by rw [sv_size]; simpa using hj) = l.getD j 0 := by
    simp [List.getD, hj]
    rfl
  rw [e] at h
  simp only [execOp, ho, hr.ev hx, hr.ev hy, Sem.run_bind, h, Result.andThen_ok, Sem.run_pure]
theorem fr_sliceS {S x y z k k'} {l : List UInt8} {p q : Int} (a b : Nat) (ho : o.op = .slice S x (some y) (some z) none) (hx : ev env x = some (sv l)) (hy : ev env y = some (.int k p)) (hz : ev env z = some (.int k' q)) (hS : C.P.underlying S = some .string) (hp : p = (a : Nat)) (hq : q = (b : Nat)) (hab : a ≤ b) (hb : b ≤ l.length) : Free C o env m (sv ((l.drop a).take (b - a))) := by
  subst hp hq
  intro ac w hr hw
  have h := run_slice_string (P := C.P) w S ⟨l.toArray⟩ k k' (a : Int) (b : Int) hS (by omega) (by omega) (by rw [sv_size]; omega)
  rw [ByteArray.extract_mk] at h
  simp only [Int.toNat_natCast] at h
  simp only [execOp, ho, hr.ev hx, Option.map_none, Option.map_some, hr.ev hy, hr.ev hz, run_sliceAt_string w S _ _ _ _ hS, Sem.run_bind, h, Result.andThen_ok, Sem.run_pure]
theorem fr_sliceS_l {S x y k} {l : List UInt8} {p : Int} (a : Nat) (ho : o.op = .slice S x (some y) none none) (hx : ev env x = some (sv l)) (hy : ev env y = some (.int k p)) (hS : C.P.underlying S = some .string) (hp : p = (a : Nat)) (hb : a ≤ l.length) : Free C o env m (sv (l.drop a)) := by
  subst hp
  intro ac w hr hw
  have h := run_slice_string_from_if (P := C.P) w S ⟨l.toArray⟩ k (a : Int) hS
  rw [if_pos ⟨by omega, by rw [sv_size]; omega⟩, ByteArray.extract_mk, sv_size] at h
  simp only [Int.toNat_natCast] at h
  rw [List.take_of_length_le (by rw [List.length_drop]; omega)] at h
  simp only [execOp, ho, hr.ev hx, Option.map_none, Option.map_some, hr.ev hy, run_sliceAt_string w S _ _ _ _ hS, Sem.run_bind, h, Result.andThen_ok, Sem.run_pure]
end Go.Sx

/- The library's variables that a reader of texts meets; errors compared with nil; the library's Split, Cut and ParseInt, as our contracts say them; what is laid and the shape, both handed on. -/
set_option linter.unusedVariables false
set_option linter.unusedSimpArgs false
namespace Go.Sx
open Go Go.RowKit
variable {C : Cx} {env env' : Env} {m m' : List Ent} {o : Oper} {K : Env → List Ent → Prop}
/-- The three variables of the library that a reader of texts meets. -/
structure RdO (gm gs gr : Nat) (w : World) : Prop where
  max : ∃ m, w.cell? ⟨gm, 0, none⟩ = some (.int .i64 m)
  syn : ∃ v, w.cell? ⟨gs, 0, none⟩ = some v ∧ (v = .nilIface ∨ ∃ te pe, v = .iface te pe)
  rng : ∃ v, w.cell? ⟨gr, 0, none⟩ = some v ∧ (v = .nilIface ∨ ∃ te pe, v = .iface te pe)
theorem cell_below {w w' : World} {g : Nat} {v : Value} (hb : Below w.heap.size w w') (h : w.cell? ⟨g, 0, none⟩ = some v) : w'.cell? ⟨g, 0, none⟩ = some v :=
  (hb.cell (p := ⟨g, 0, none⟩) (World.block_lt_of_cell? _ _ h)).trans h
theorem RdO.below {a b c w w'} (h : RdO a b c w) (hb : Below w.heap.size w w') : RdO a b c w' :=
  ⟨h.max.imp fun _ h => cell_below hb h, h.syn.imp fun _ h => ⟨cell_below hb h.1, h.2⟩, h.rng.imp fun _ h => ⟨cell_below hb h.1, h.2⟩⟩
theorem RdO.keep {a b c w0 m w} (h : RdO a b c w0) (hh : Holds w0.heap.size w0 m w) : RdO a b c w := h.below hh.below
/-- An error: nil, or something. -/
def errV (b : Bool) (t : TypeId) (v : Value) : Value := if b then .nilIface else .iface t v
theorem errV_eq (b : Bool) (t : TypeId) (v : Value) {T : TypeId} {P : Program} {w : World} (h : P.isIface T = true) : (Op.equal T (errV b t v) .nilIface).run P w = .ok b w := by
  cases b
  · exact run_equalIn_iface_nil w 9999 T h t v
  · exact run_equalIn_nil_nil_at w 9999 T h
theorem fr_eql_err {T x c T' b t v ms} (ho : o.op = .binOp .eql T x (.const c) T') (hx : ev env x = some (errV b t v)) (hy : ev env (.const c) = some .nilIface) (hT : C.P.underlying T = some (.interface ms)) : Free C o env m (.bool b) := by
  intro a w hr _
  have hi : C.P.isIface T = true := by simp [Program.isIface, hT]
  have h : (binOp .eql T (errV b t v) .nilIface).run C.P w = .ok (.bool b) w := by
    have e : binOp .eql T (errV b t v) .nilIface = (do pure (.bool (← Op.equal T (errV b t v) .nilIface))) := by cases b <;> rfl
    rw [e]
    simp only [Sem.run_bind, errV_eq b t v hi, Result.andThen_ok, Sem.run_pure]
  have hg : (eqGuard .eql T x (.const c) (errV b t v) .nilIface).run C.P w = .ok () w := by
    cases b
    · show (eqGuard .eql T x (.const c) (.iface t v) .nilIface).run C.P w = _
      rw [eqGuard_at_iface]; rfl
    · show (eqGuard .eql T x (.const c) .nilIface .nilIface).run C.P w = _
      rw [eqGuard_nil_constR]; rfl
  simp only [execOp, ho, hr.ev hx, hr.ev hy, Sem.run_bind, hg, Result.andThen_ok, h]; rfl
theorem fr_neq_err {T x c T' b t v ms} (ho : o.op = .binOp .neq T x (.const c) T') (hx : ev env x = some (errV b t v)) (hy : ev env (.const c) = some .nilIface) (hT : C.P.underlying T = some (.interface ms)) : Free C o env m (.bool (!b)) := by
  intro a w hr _
  have hi : C.P.isIface T = true := by simp [Program.isIface, hT]
  have h : (binOp .neq T (errV b t v) .nilIface).run C.P w = .ok (.bool (!b)) w := by
    have e : binOp .neq T (errV b t v) .nilIface = (do pure (.bool (!(← Op.equal T (errV b t v) .nilIface)))) := by cases b <;> rfl
    rw [e]
    simp only [Sem.run_bind, errV_eq b t v hi, Result.andThen_ok, Sem.run_pure]
  have hg : (eqGuard .neq T x (.const c) (errV b t v) .nilIface).run C.P w = .ok () w := by
    cases b
    · show (eqGuard .neq T x (.const c) (.iface t v) .nilIface).run C.P w = _
      rw [eqGuard_at_iface]; rfl
    · show (eqGuard .neq T x (.const c) .nilIface .nilIface).run C.P w = _
      rw [eqGuard_nil_constR]; rfl
  simp only [execOp, ho, hr.ev hx, hr.ev hy, Sem.run_bind, hg, Result.andThen_ok, h]; rfl
/-- The pieces that the library's Split lays are a row of ours. -/
theorem splitB_pieces (c : UInt8) (t : List UInt8) : (Lib.splitB (mkB [c]) 0 (Lib.countB (mkB t) (mkB [c])) (mkB t)).map (·.data.toList) = W.splitA c [] t := by
  rw [Lib.splitB_data]
  exact W.split_eq c t
theorem split_row {w : World} {T : TypeId} (c : UInt8) (t : List UInt8) (hl : t.length ≤ 281474976710656) :
    (Value.slice (some ⟨w.heap.size, 0, none⟩) (Lib.countB (mkB t) (mkB [c]) + 1) (Lib.countB (mkB t) (mkB [c]) + 1) = Value.slice (some ⟨w.heap.size, 0, none⟩) (W.splitA c [] t).length (W.splitA c [] t).length) ∧
    Ent.holds w.heap.size (w.alloc (.cells ((Lib.splitB (mkB [c]) 0 (Lib.countB (mkB t) (mkB [c])) (mkB t)).map Value.string).toArray T)) (.row (.slice (some ⟨w.heap.size, 0, none⟩) (W.splitA c [] t).length (W.splitA c [] t).length) T 1 (W.splitA c [] t).length ((W.splitA c [] t).flatMap eSt)) := by
  have hp := splitB_pieces c t
  have hlen : Lib.countB (mkB t) (mkB [c]) + 1 = (W.splitA c [] t).length := by
    rw [← hp, List.length_map, Lib.splitB_all (mkB [c]) (by show 1 ≤ 1; decide) 0 _ (mkB t) rfl]
  have hlt := Lib.countB_le (mkB [c]) (by show 1 ≤ 1; decide) (mkB t).size (mkB t) (Nat.le_refl _)
  have hsz : (mkB t).size = t.length := by simp [mkB, ByteArray.size]
  have hcells : (Lib.splitB (mkB [c]) 0 (Lib.countB (mkB t) (mkB [c])) (mkB t)).map Value.string = (W.splitA c [] t).flatMap eSt := by
    rw [← hp]
    generalize Lib.splitB (mkB [c]) 0 (Lib.countB (mkB t) (mkB [c])) (mkB t) = bs
    induction bs with
    | nil => rfl
    | cons b r ih => rw [List.map_cons, ih]; rfl
  refine ⟨by rw [hlen], ?_, .inr ⟨w.heap.size, _, ((Lib.splitB (mkB [c]) 0 (Lib.countB (mkB t) (mkB [c])) (mkB t)).map Value.string).toArray, rfl, Nat.le_refl _, ?_, Nat.le_refl _, ?_, ?_, ?_⟩⟩
  · rw [flat_len eSt_len, Nat.mul_one]
  · show (w.heap.push _)[w.heap.size]? = _
    simp
  · rw [← hlen]; unfold maxLen; omega
  · rw [List.size_toArray, hcells, flat_len eSt_len]
  · rw [hcells, Nat.mul_one]
    exact List.take_of_length_le (by rw [List.toList_toArray, flat_len eSt_len]; omega)
theorem below_alloc (w : World) (o : Obj) : Below w.heap.size w (w.alloc o) := ⟨rfl, rfl, rfl, by show w.heap.size ≤ (w.heap.push o).size; rw [Array.size_push]; omega, fun j hj => by
  show (w.heap.push o)[j]? = _
  rw [Array.getElem?_push, if_neg (by omega)]⟩
theorem fr_subZ {T x y T' p q} (ho : o.op = .binOp .sub T x y T') (hx : ev env x = some (.int .u8 p)) (hy : ev env y = some (.int .u8 q)) (h : 0 ≤ p - q ∧ p - q ≤ 255) : Free C o env m (.int .u8 (p - q)) := by
  have := fr_sub (C := C) (m := m) ho hx hy
  rwa [IntWalk.u8_in _ h] at this
theorem below_drew (w : World) (k : Nat) : Below w.heap.size w (w.drewN k) := ⟨rfl, rfl, rfl, Nat.le_refl _, fun _ _ => rfl⟩
end Go.Sx
namespace Go
variable {H : Type} {enc : TypeId × Value → H}
/-- What is laid and the world's shape, both handed on. -/
theorem handed_and_shaped {a : Assume} {C : Checked} {os : Os} {f : FuncId} {fn : Func} {s : ChangeSpec} {conds : List PathCond} {apart fresh handsOn again : Bool} {X : World → Array Value → Prop}
    (hX : ∀ (w w' : World) (args : Array Value), w.heap = w'.heap → X w args → X w' args)
    (own : ownKnob C.prog.godebug = none) (started : os.Started) (noInit : C.prog.inits.idxOf? f = none) (hfn : C.prog.funcs[f]? = some fn)
    (witness : ∃ (w : World) (tape : Tape) (i : Input), w.os = os ∧ (w.forCall tape i).Shaped C.prog ∧ i.vars = [] ∧ Input.okWide C.prog (w.forCall tape i) .any w.heap.size f i ∧
      ((s.pre enc C.prog fn conds apart (w.forCall tape i).memory i.args ∧ X (w.forCall tape i).memory i.args) ∧ sizedMet enc C.prog fn (OpenSpec.ofChange s) apart (w.forCall tape i).memory i.args) ∧ a.holds C.prog (lone (Frame.enter C.prog f i.args .normal) [] (w.forCall tape i)))
    (contract : ∀ (W : World) (base : Nat) (args : Array Value) (ds gs : List (DataW H)) (before : List MemPlace),
      (∀ (j : Nat) t v, fn.params[j]? = some t → args[j]? = some v → Value.okWide C.prog W .any base t v) →
      DataW.Whole enc C.prog fn.params.toList s.vars apart W args.toList ds gs before →
      conds.all (PathCond.test C.prog ⟨fn.params.toList, ds, s.plain.varTypes C.prog, gs⟩) = true →
      (DataW.weightsEach C.prog (fn.params.toList ++ s.plain.varTypes C.prog) (ds ++ gs)).all (· ≤ reachBytes) = true → X W args → W.ShapedOpen C.prog →
      a.holds C.prog (lone (Frame.enter C.prog f args .normal) [] W) →
      Calls C.prog f args W fun e W' => ∃ v, e = .returned v ∧ s.post enc C.prog fn apart fresh handsOn again W args v W') :
    ReturnsInHanded a C os f .any (fun w args => (s.pre enc C.prog fn conds apart w args ∧ X w args) ∧ sizedMet enc C.prog fn (OpenSpec.ofChange s) apart w args) (s.post enc C.prog fn apart fresh handsOn again) := by
  refine returnsInHanded_of_calls own started noInit witness ?_
  intro w tape i _ hsh _ hok hpre hholds
  obtain ⟨_, _, _, fn', hfn', _, _, _, _, hval⟩ := hok
  have e : fn' = fn := Option.some.inj (hfn'.symm.trans hfn)
  subst e
  obtain ⟨⟨⟨ds, gs, before, hw, hc⟩, hx⟩, hz⟩ := hpre
  have hw' := DataW.Whole.of_heap (w' := w.forCall tape i) (by rfl) hw
  refine (contract (w.forCall tape i) w.heap.size i.args ds gs before hval hw' hc (hz.weights hw) (hX _ _ _ (by rfl) hx) hsh hholds).mono fun e W' ⟨v, he, hp⟩ => ?_
  subst he
  exact ChangeSpec.post_blind hp
end Go

/-
  DERIVED: THE SHELF's CONTRACTS AT THIS DUMP, IN PLAIN WORDS (tools/lay-plain.mjs out of 'TryzShelf.lean', which tools/lay-shelf.mjs wrote): THE SAME DECLARATIONS UNDER THE SAME NAMES: 'import', 'namespace', 'open', 'def', 'theorem' AND NOTHING ELSE: no command of the shelf's: FOR A HAND-IN. Each laying: the table of numbers ('.._ren') and one theorem, a field a fact of the dump's own or the kernel's comparison; each contract: ONE APPLICATION.
-/
namespace Go.Proofs
open Go.Shelf
def Tryz.laysM171_ren : Go.Shelf.Ren := ⟨fun | 171 => 110 | 243 => 118 | 246 => 76 | 283 => 95 | 284 => 96 | 285 => 97 | 286 => 98 | 129 => 112 | 317 => 111 | 318 => 113 | 319 => 114 | 320 => 115 | 337 => 119 | 338 => 120 | n => n, fun | 3 => 3 | 9 => 9 | 2 => 2 | 4 => 4 | 171 => 123 | 0 => 0 | 53 => 91 | 37 => 22 | 5 => 5 | 173 => 126 | 212 => 142 | 51 => 132 | 20 => 20 | 213 => 143 | 46 => 110 | 232 => 154 | 233 => 155 | n => n, fun | 17 => 3 | 18 => 6 | 19 => 7 | n => n⟩
theorem Tryz.laysM171 : Go.Proofs.LaysM.n171 Tryz.prog Tryz.laysM171_ren := {
  mixed := by kernel_rfl
  f129 := Tryz.func112.trans (congrArg some (by kernel_rfl))
  f171 := Tryz.func110.trans (congrArg some (by kernel_rfl))
  f243 := Tryz.func118.trans (congrArg some (by kernel_rfl))
  f246 := Tryz.func76.trans (congrArg some (by kernel_rfl))
  f283 := Tryz.func95.trans (congrArg some (by kernel_rfl))
  f284 := Tryz.func96.trans (congrArg some (by kernel_rfl))
  f285 := Tryz.func97.trans (congrArg some (by kernel_rfl))
  f286 := Tryz.func98.trans (congrArg some (by kernel_rfl))
  f317 := Tryz.func111.trans (congrArg some (by kernel_rfl))
  f318 := Tryz.func113.trans (congrArg some (by kernel_rfl))
  f319 := Tryz.func114.trans (congrArg some (by kernel_rfl))
  f320 := Tryz.func115.trans (congrArg some (by kernel_rfl))
  f337 := Tryz.func119.trans (congrArg some (by kernel_rfl))
  f338 := Tryz.func120.trans (congrArg some (by kernel_rfl))
  t0 := Tryz.underlying0
  a0 := Tryz.isAgg0
  z0 := Tryz.sizeOf0
  v0 := Tryz.zeroValue0
  t2 := Tryz.underlying2
  a2 := Tryz.isAgg2
  z2 := Tryz.sizeOf2
  v2 := Tryz.zeroValue2
  t3 := Tryz.underlying3
  a3 := Tryz.isAgg3
  z3 := Tryz.sizeOf3
  v3 := Tryz.zeroValue3
  t4 := Tryz.underlying4
  a4 := Tryz.isAgg4
  z4 := Tryz.sizeOf4
  v4 := Tryz.zeroValue4
  t5 := Tryz.underlying5
  a5 := Tryz.isAgg5
  z5 := Tryz.sizeOf5
  v5 := Tryz.zeroValue5
  t9 := Tryz.underlying9
  a9 := Tryz.isAgg9
  z9 := Tryz.sizeOf9
  v9 := Tryz.zeroValue9
  t20 := Tryz.underlying20
  a20 := Tryz.isAgg20
  z20 := Tryz.sizeOf20
  v20 := Tryz.zeroValue20
  t37 := Tryz.underlying22
  a37 := Tryz.isAgg22
  z37 := Tryz.sizeOf22
  v37 := Tryz.zeroValue22
  t46 := Tryz.underlying110
  a46 := Tryz.isAgg110
  z46 := Tryz.sizeOf110
  v46 := Tryz.zeroValue110
  t51 := Tryz.underlying132
  a51 := Tryz.isAgg132
  z51 := Tryz.sizeOf132
  v51 := Tryz.zeroValue132
  t53 := Tryz.underlying91
  a53 := Tryz.isAgg91
  z53 := Tryz.sizeOf91
  v53 := Tryz.zeroValue91
  t171 := Tryz.underlying123
  a171 := Tryz.isAgg123
  z171 := Tryz.sizeOf123
  v171 := Tryz.zeroValue123
  t173 := Tryz.underlying126
  a173 := Tryz.isAgg126
  z173 := Tryz.sizeOf126
  v173 := Tryz.zeroValue126
  t212 := Tryz.underlying142
  a212 := Tryz.isAgg142
  z212 := Tryz.sizeOf142
  v212 := Tryz.zeroValue142
  t213 := Tryz.underlying143
  a213 := Tryz.isAgg143
  z213 := Tryz.sizeOf143
  t232 := Tryz.underlying154
  a232 := Tryz.isAgg154
  z232 := Tryz.sizeOf154
  v232 := Tryz.zeroValue154
  t233 := Tryz.underlying155
  a233 := Tryz.isAgg155
  z233 := Tryz.sizeOf155
  v233 := Tryz.zeroValue155
  g17 := by kernel_rfl
  g18 := by kernel_rfl
  g19 := by kernel_rfl
  i0 := by kernel_rfl
  i2 := by kernel_rfl
  i3 := by kernel_rfl
  i4 := by kernel_rfl
  i5 := by kernel_rfl
  i9 := by kernel_rfl
  i20 := by kernel_rfl
  i37 := by kernel_rfl
  i46 := by kernel_rfl
  i51 := by kernel_rfl
  i53 := by kernel_rfl
  i171 := by kernel_rfl
  i173 := by kernel_rfl
  i212 := by kernel_rfl
  i232 := by kernel_rfl
  i233 := by kernel_rfl
  m17 := by kernel_rfl
  m18 := by kernel_rfl
  m19 := by kernel_rfl }
open Go.RowKit Go.Sort Go.Lib in
/-- strconv.Itoa: "Itoa is equivalent to FormatInt(int64(i), 10).": i's DECIMAL NUMERAL ('Lib.itoa': a '-' where i is negative, then the digits), FOR EVERY int. The world behind the call: the world before it, new blocks behind the heap (the library's 'var a [24]byte'), draws. (LAID: no walk: one application.) -/
theorem Tryz.strconv_Itoa (n : Int) (h0 : -9223372036854775808 ≤ n) (h1 : n ≤ 9223372036854775807) (w : World) (htab : Lib.TabIs Tryz.prog w "internal/strconv.uint64pow10" .u64 Lib.pow10Tab) :
    Calls Tryz.prog 110 #[.int .i64 n] w fun e w' => e = .returned (.string ⟨(Lib.itoa n).toArray⟩) ∧ ∃ k os, w' = grow (w.drewN k) os := Any.strconv_Itoa Tryz.laysM171 n h0 h1 w htab
def Tryz.laysM173_ren : Go.Shelf.Ren := ⟨fun | 173 => 60 | 246 => 76 | 283 => 95 | 284 => 96 | 285 => 97 | 286 => 98 | 129 => 112 | 317 => 111 | 318 => 113 | 319 => 114 | 320 => 115 | 337 => 119 | 338 => 120 | n => n, fun | 2 => 2 | 3 => 3 | 9 => 9 | 4 => 4 | 171 => 123 | 0 => 0 | 53 => 91 | 37 => 22 | 5 => 5 | 173 => 126 | 212 => 142 | 51 => 132 | 20 => 20 | 213 => 143 | 46 => 110 | 232 => 154 | 233 => 155 | n => n, fun | 17 => 3 | 18 => 6 | 19 => 7 | n => n⟩
theorem Tryz.laysM173 : Go.Proofs.LaysM.n173 Tryz.prog Tryz.laysM173_ren := {
  mixed := by kernel_rfl
  f129 := Tryz.func112.trans (congrArg some (by kernel_rfl))
  f173 := Tryz.func60.trans (congrArg some (by kernel_rfl))
  f246 := Tryz.func76.trans (congrArg some (by kernel_rfl))
  f283 := Tryz.func95.trans (congrArg some (by kernel_rfl))
  f284 := Tryz.func96.trans (congrArg some (by kernel_rfl))
  f285 := Tryz.func97.trans (congrArg some (by kernel_rfl))
  f286 := Tryz.func98.trans (congrArg some (by kernel_rfl))
  f317 := Tryz.func111.trans (congrArg some (by kernel_rfl))
  f318 := Tryz.func113.trans (congrArg some (by kernel_rfl))
  f319 := Tryz.func114.trans (congrArg some (by kernel_rfl))
  f320 := Tryz.func115.trans (congrArg some (by kernel_rfl))
  f337 := Tryz.func119.trans (congrArg some (by kernel_rfl))
  f338 := Tryz.func120.trans (congrArg some (by kernel_rfl))
  t0 := Tryz.underlying0
  a0 := Tryz.isAgg0
  z0 := Tryz.sizeOf0
  v0 := Tryz.zeroValue0
  t2 := Tryz.underlying2
  a2 := Tryz.isAgg2
  z2 := Tryz.sizeOf2
  v2 := Tryz.zeroValue2
  t3 := Tryz.underlying3
  a3 := Tryz.isAgg3
  z3 := Tryz.sizeOf3
  v3 := Tryz.zeroValue3
  t4 := Tryz.underlying4
  a4 := Tryz.isAgg4
  z4 := Tryz.sizeOf4
  v4 := Tryz.zeroValue4
  t5 := Tryz.underlying5
  a5 := Tryz.isAgg5
  z5 := Tryz.sizeOf5
  v5 := Tryz.zeroValue5
  t9 := Tryz.underlying9
  a9 := Tryz.isAgg9
  z9 := Tryz.sizeOf9
  v9 := Tryz.zeroValue9
  t20 := Tryz.underlying20
  a20 := Tryz.isAgg20
  z20 := Tryz.sizeOf20
  v20 := Tryz.zeroValue20
  t37 := Tryz.underlying22
  a37 := Tryz.isAgg22
  z37 := Tryz.sizeOf22
  v37 := Tryz.zeroValue22
  t46 := Tryz.underlying110
  a46 := Tryz.isAgg110
  z46 := Tryz.sizeOf110
  v46 := Tryz.zeroValue110
  t51 := Tryz.underlying132
  a51 := Tryz.isAgg132
  z51 := Tryz.sizeOf132
  v51 := Tryz.zeroValue132
  t53 := Tryz.underlying91
  a53 := Tryz.isAgg91
  z53 := Tryz.sizeOf91
  v53 := Tryz.zeroValue91
  t171 := Tryz.underlying123
  a171 := Tryz.isAgg123
  z171 := Tryz.sizeOf123
  v171 := Tryz.zeroValue123
  t173 := Tryz.underlying126
  a173 := Tryz.isAgg126
  z173 := Tryz.sizeOf126
  v173 := Tryz.zeroValue126
  t212 := Tryz.underlying142
  a212 := Tryz.isAgg142
  z212 := Tryz.sizeOf142
  v212 := Tryz.zeroValue142
  t213 := Tryz.underlying143
  a213 := Tryz.isAgg143
  z213 := Tryz.sizeOf143
  t232 := Tryz.underlying154
  a232 := Tryz.isAgg154
  z232 := Tryz.sizeOf154
  v232 := Tryz.zeroValue154
  t233 := Tryz.underlying155
  a233 := Tryz.isAgg155
  z233 := Tryz.sizeOf155
  v233 := Tryz.zeroValue155
  g17 := by kernel_rfl
  g18 := by kernel_rfl
  g19 := by kernel_rfl
  i0 := by kernel_rfl
  i2 := by kernel_rfl
  i3 := by kernel_rfl
  i4 := by kernel_rfl
  i5 := by kernel_rfl
  i9 := by kernel_rfl
  i20 := by kernel_rfl
  i37 := by kernel_rfl
  i46 := by kernel_rfl
  i51 := by kernel_rfl
  i53 := by kernel_rfl
  i171 := by kernel_rfl
  i173 := by kernel_rfl
  i212 := by kernel_rfl
  i232 := by kernel_rfl
  i233 := by kernel_rfl
  m17 := by kernel_rfl
  m18 := by kernel_rfl
  m19 := by kernel_rfl }
open Go.RowKit Go.Sort Go.Lib in
/-- strconv.FormatInt: "FormatInt returns the string representation of i in the given base": AT BASE 10: i's decimal numeral, for every int64. (LAID: no walk: one application.) -/
theorem Tryz.strconv_FormatInt_10 (n : Int) (h0 : -9223372036854775808 ≤ n) (h1 : n ≤ 9223372036854775807) (w : World) (htab : Lib.TabIs Tryz.prog w "internal/strconv.uint64pow10" .u64 Lib.pow10Tab) :
    Calls Tryz.prog 60 #[.int .i64 n, .int .i64 10] w fun e w' => e = .returned (.string ⟨(Lib.itoa n).toArray⟩) ∧ ∃ k os, w' = grow (w.drewN k) os := Any.strconv_FormatInt_10 Tryz.laysM173 n h0 h1 w htab
def Tryz.laysC174_ren : Go.Shelf.Ren := ⟨fun | 174 => 58 | 247 => 73 | 245 => 74 | 287 => 90 | 279 => 91 | 280 => 92 | 281 => 93 | 282 => 94 | 321 => 106 | 322 => 107 | 316 => 108 | 171 => 110 | 205 => 109 | 243 => 118 | 246 => 76 | 283 => 95 | 284 => 96 | 285 => 97 | 286 => 98 | 129 => 112 | 317 => 111 | 318 => 113 | 319 => 114 | 320 => 115 | 337 => 119 | 338 => 120 | n => n, fun | 9 => 9 | 3 => 3 | 2 => 2 | 75 => 67 | 85 => 95 | 4 => 4 | 167 => 116 | 5 => 5 | 53 => 91 | 175 => 117 | 46 => 110 | 168 => 119 | 37 => 22 | 0 => 0 | 210 => 139 | 21 => 21 | 127 => 98 | 145 => 148 | 143 => 146 | 171 => 123 | 173 => 126 | 212 => 142 | 51 => 132 | 20 => 20 | 213 => 143 | 232 => 154 | 233 => 155 | 80 => 71 | n => n, fun | 15 => 1 | 16 => 2 | 17 => 3 | 18 => 6 | 19 => 7 | n => n⟩
theorem Tryz.laysC174 : Go.Proofs.LaysC.n174 Tryz.prog Tryz.laysC174_ren := {
  mixed := by kernel_rfl
  f129 := Tryz.func112.trans (congrArg some (by kernel_rfl))
  f171 := Tryz.func110.trans (congrArg some (by kernel_rfl))
  f174 := Tryz.func58.trans (congrArg some (by kernel_rfl))
  f205 := Tryz.func109.trans (congrArg some (by kernel_rfl))
  f243 := Tryz.func118.trans (congrArg some (by kernel_rfl))
  f245 := Tryz.func74.trans (congrArg some (by kernel_rfl))
  f246 := Tryz.func76.trans (congrArg some (by kernel_rfl))
  f247 := Tryz.func73.trans (congrArg some (by kernel_rfl))
  f279 := Tryz.func91.trans (congrArg some (by kernel_rfl))
  f280 := Tryz.func92.trans (congrArg some (by kernel_rfl))
  f281 := Tryz.func93.trans (congrArg some (by kernel_rfl))
  f282 := Tryz.func94.trans (congrArg some (by kernel_rfl))
  f283 := Tryz.func95.trans (congrArg some (by kernel_rfl))
  f284 := Tryz.func96.trans (congrArg some (by kernel_rfl))
  f285 := Tryz.func97.trans (congrArg some (by kernel_rfl))
  f286 := Tryz.func98.trans (congrArg some (by kernel_rfl))
  f287 := Tryz.func90.trans (congrArg some (by kernel_rfl))
  f316 := Tryz.func108.trans (congrArg some (by kernel_rfl))
  f317 := Tryz.func111.trans (congrArg some (by kernel_rfl))
  f318 := Tryz.func113.trans (congrArg some (by kernel_rfl))
  f319 := Tryz.func114.trans (congrArg some (by kernel_rfl))
  f320 := Tryz.func115.trans (congrArg some (by kernel_rfl))
  f321 := Tryz.func106.trans (congrArg some (by kernel_rfl))
  f322 := Tryz.func107.trans (congrArg some (by kernel_rfl))
  f337 := Tryz.func119.trans (congrArg some (by kernel_rfl))
  f338 := Tryz.func120.trans (congrArg some (by kernel_rfl))
  t0 := Tryz.underlying0
  a0 := Tryz.isAgg0
  z0 := Tryz.sizeOf0
  v0 := Tryz.zeroValue0
  t2 := Tryz.underlying2
  a2 := Tryz.isAgg2
  z2 := Tryz.sizeOf2
  v2 := Tryz.zeroValue2
  t3 := Tryz.underlying3
  a3 := Tryz.isAgg3
  z3 := Tryz.sizeOf3
  v3 := Tryz.zeroValue3
  t4 := Tryz.underlying4
  a4 := Tryz.isAgg4
  z4 := Tryz.sizeOf4
  v4 := Tryz.zeroValue4
  t5 := Tryz.underlying5
  a5 := Tryz.isAgg5
  z5 := Tryz.sizeOf5
  v5 := Tryz.zeroValue5
  t9 := Tryz.underlying9
  a9 := Tryz.isAgg9
  z9 := Tryz.sizeOf9
  v9 := Tryz.zeroValue9
  t20 := Tryz.underlying20
  a20 := Tryz.isAgg20
  z20 := Tryz.sizeOf20
  v20 := Tryz.zeroValue20
  t21 := Tryz.underlying21
  a21 := Tryz.isAgg21
  z21 := Tryz.sizeOf21
  v21 := Tryz.zeroValue21
  t37 := Tryz.underlying22
  a37 := Tryz.isAgg22
  z37 := Tryz.sizeOf22
  v37 := Tryz.zeroValue22
  t46 := Tryz.underlying110
  a46 := Tryz.isAgg110
  z46 := Tryz.sizeOf110
  v46 := Tryz.zeroValue110
  t51 := Tryz.underlying132
  a51 := Tryz.isAgg132
  z51 := Tryz.sizeOf132
  v51 := Tryz.zeroValue132
  t53 := Tryz.underlying91
  a53 := Tryz.isAgg91
  z53 := Tryz.sizeOf91
  v53 := Tryz.zeroValue91
  t75 := Tryz.underlying67
  a75 := Tryz.isAgg67
  z75 := Tryz.sizeOf67
  v75 := Tryz.zeroValue67
  t85 := Tryz.underlying95
  a85 := Tryz.isAgg95
  z85 := Tryz.sizeOf95
  v85 := Tryz.zeroValue95
  t127 := Tryz.underlying98
  a127 := Tryz.isAgg98
  z127 := Tryz.sizeOf98
  v127 := Tryz.zeroValue98
  t143 := Tryz.underlying146
  a143 := Tryz.isAgg146
  z143 := Tryz.sizeOf146
  v143 := Tryz.zeroValue146
  t145 := Tryz.underlying148
  a145 := Tryz.isAgg148
  z145 := Tryz.sizeOf148
  v145 := Tryz.zeroValue148
  t167 := Tryz.underlying116
  a167 := Tryz.isAgg116
  z167 := Tryz.sizeOf116
  v167 := Tryz.zeroValue116
  t168 := Tryz.underlying119
  a168 := Tryz.isAgg119
  z168 := Tryz.sizeOf119
  v168 := Tryz.zeroValue119
  t171 := Tryz.underlying123
  a171 := Tryz.isAgg123
  z171 := Tryz.sizeOf123
  v171 := Tryz.zeroValue123
  t173 := Tryz.underlying126
  a173 := Tryz.isAgg126
  z173 := Tryz.sizeOf126
  v173 := Tryz.zeroValue126
  t175 := Tryz.underlying117
  a175 := Tryz.isAgg117
  z175 := Tryz.sizeOf117
  v175 := Tryz.zeroValue117
  t210 := Tryz.underlying139
  a210 := Tryz.isAgg139
  z210 := Tryz.sizeOf139
  v210 := Tryz.zeroValue139
  t212 := Tryz.underlying142
  a212 := Tryz.isAgg142
  z212 := Tryz.sizeOf142
  v212 := Tryz.zeroValue142
  t213 := Tryz.underlying143
  a213 := Tryz.isAgg143
  z213 := Tryz.sizeOf143
  t232 := Tryz.underlying154
  a232 := Tryz.isAgg154
  z232 := Tryz.sizeOf154
  v232 := Tryz.zeroValue154
  t233 := Tryz.underlying155
  a233 := Tryz.isAgg155
  z233 := Tryz.sizeOf155
  v233 := Tryz.zeroValue155
  g15 := by kernel_rfl
  g16 := by kernel_rfl
  g17 := by kernel_rfl
  g18 := by kernel_rfl
  g19 := by kernel_rfl
  t80 := Tryz.underlying71
  a80 := Tryz.isAgg71
  z80 := Tryz.sizeOf71
  v80 := Tryz.zeroValue71
  i0 := by kernel_rfl
  i2 := by kernel_rfl
  i3 := by kernel_rfl
  i4 := by kernel_rfl
  i5 := by kernel_rfl
  i9 := by kernel_rfl
  i20 := by kernel_rfl
  i21 := by kernel_rfl
  i37 := by kernel_rfl
  i46 := by kernel_rfl
  i51 := by kernel_rfl
  i53 := by kernel_rfl
  i75 := by kernel_rfl
  i80 := by kernel_rfl
  i85 := by kernel_rfl
  i127 := by kernel_rfl
  i143 := by kernel_rfl
  i145 := by kernel_rfl
  i167 := by kernel_rfl
  i168 := by kernel_rfl
  i171 := by kernel_rfl
  i173 := by kernel_rfl
  i175 := by kernel_rfl
  i210 := by kernel_rfl
  i212 := by kernel_rfl
  i232 := by kernel_rfl
  i233 := by kernel_rfl
  m15 := by kernel_rfl
  m16 := by kernel_rfl
  m17 := by kernel_rfl
  m18 := by kernel_rfl
  m19 := by kernel_rfl
  c0 := by kernel_rfl
  c2 := by kernel_rfl
  c3 := by kernel_rfl
  c4 := by kernel_rfl
  c5 := by kernel_rfl
  c9 := by kernel_rfl
  c20 := by kernel_rfl
  c21 := by kernel_rfl
  c37 := by kernel_rfl
  c46 := by kernel_rfl
  c51 := by kernel_rfl
  c53 := by kernel_rfl
  c75 := by kernel_rfl
  c80 := by kernel_rfl
  c85 := by kernel_rfl
  c127 := by kernel_rfl
  c143 := by kernel_rfl
  c145 := by kernel_rfl
  c167 := by kernel_rfl
  c168 := by kernel_rfl
  c171 := by kernel_rfl
  c173 := by kernel_rfl
  c175 := by kernel_rfl
  c210 := by kernel_rfl
  c212 := by kernel_rfl
  c213 := by kernel_rfl
  c232 := by kernel_rfl
  c233 := by kernel_rfl }
open Go.RowKit in
/-- strconv.ParseInt(s, 10, 64), AT EVERY STRING THAT SPELLS AN int64 ('Lib.parseIntB 64 s.data.toList = .ok v'): v, AND NO ERROR. (LAID: no walk: one application.) -/
theorem Tryz.strconv_ParseInt_10_at64_ok (s : ByteArray) (hmax : s.size ≤ 9223372036854775806) (v : Int) (h : Lib.parseIntB 64 s.data.toList = .ok v) (w : World) :
    Calls Tryz.prog 58 #[.string s, .int .i64 10, .int .i64 64] w fun e w' => e = .returned (.tuple #[.int .i64 v, .nilIface]) ∧ (w' = w ∨ ∃ t, w' = Lib.bytesWorld w 5 t) := Any.strconv_ParseInt_10_at64_ok Tryz.laysC174 s hmax v h w
open Go.RowKit in
/-- strconv.ParseInt(s, 10, 64), AT EVERY STRING THAT IS NO DECIMAL NUMERAL: 0, AND AN ERROR THAT IS NOT nil: a *NumError in a new block N: {Func: "ParseInt", Num: s's bytes, Err: what the variable ErrSyntax holds}. Of what was there nothing has turned. (LAID: no walk: one application.) -/
theorem Tryz.strconv_ParseInt_10_at64_syntax (s : ByteArray) (hlim : s.size ≤ 281474976710656) (h : Lib.parseIntB 64 s.data.toList = Lib.parseIntB 64 []) (ev : Value) (w : World) (hv : w.cell? ⟨1, 0, none⟩ = some ev) (hev : ev = .nilIface ∨ ∃ te pe, ev = .iface te pe) :
    Calls Tryz.prog 58 #[.string s, .int .i64 10, .int .i64 64] w fun e w' => ∃ N, e = .returned (.tuple #[.int .i64 (0), .iface 119 (.pointer (some ⟨N, 0, none⟩))]) ∧ w.heap.size ≤ N ∧ w'.heap[N]? = some (.cells #[.string ⟨#[80, 97, 114, 115, 101, 73, 110, 116]⟩, .string s, ev] 139 (0, 0)) ∧ Below w.heap.size w w' := Any.strconv_ParseInt_10_at64_syntax Tryz.laysC174 s hlim h ev w hv hev
open Go.RowKit in
/-- strconv.ParseInt(s, 10, 64), AT EVERY NUMERAL THAT NO int64 HOLDS: THE GREATEST OR THE LEAST int64, BY THE SIGN ('Lib.intSat 64'), AND AN ERROR THAT IS NOT nil: a *NumError in a new block N: {Func: "ParseInt", Num: s's bytes, Err: what the variable ErrRange holds}. Of what was there nothing has turned. (LAID: no walk: one application.) -/
theorem Tryz.strconv_ParseInt_10_at64_range (s : ByteArray) (hlim : s.size ≤ 281474976710656) (h : Lib.parseIntB 64 s.data.toList = .range) (ev : Value) (w : World) (hv : w.cell? ⟨2, 0, none⟩ = some ev) (hev : ev = .nilIface ∨ ∃ te pe, ev = .iface te pe) :
    Calls Tryz.prog 58 #[.string s, .int .i64 10, .int .i64 64] w fun e w' => ∃ N, e = .returned (.tuple #[.int .i64 (Lib.intSat 64 s.data.toList), .iface 119 (.pointer (some ⟨N, 0, none⟩))]) ∧ w.heap.size ≤ N ∧ w'.heap[N]? = some (.cells #[.string ⟨#[80, 97, 114, 115, 101, 73, 110, 116]⟩, .string s, ev] 139 (0, 0)) ∧ Below w.heap.size w w' := Any.strconv_ParseInt_10_at64_range Tryz.laysC174 s hlim h ev w hv hev
def Tryz.lays145_ren : Go.Shelf.Ren := ⟨fun | 145 => 27 | 220 => 57 | 219 => 72 | 217 => 86 | 225 => 87 | 224 => 88 | 267 => 89 | 266 => 104 | 314 => 105 | n => n, fun | 9 => 9 | 4 => 4 | 59 => 59 | 3 => 3 | 5 => 5 | 46 => 110 | 146 => 133 | 51 => 132 | n => n, fun | 1 => 0 | n => n⟩
theorem Tryz.lays145 : Go.Proofs.Lays.n145 Tryz.prog Tryz.lays145_ren := {
  mixed := by kernel_rfl
  f145 := Tryz.func27.trans (congrArg some (by kernel_rfl))
  f217 := Tryz.func86.trans (congrArg some (by kernel_rfl))
  f219 := Tryz.func72.trans (congrArg some (by kernel_rfl))
  f220 := Tryz.func57.trans (congrArg some (by kernel_rfl))
  f224 := Tryz.func88.trans (congrArg some (by kernel_rfl))
  f225 := Tryz.func87.trans (congrArg some (by kernel_rfl))
  f266 := Tryz.func104.trans (congrArg some (by kernel_rfl))
  f267 := Tryz.func89.trans (congrArg some (by kernel_rfl))
  f314 := Tryz.func105.trans (congrArg some (by kernel_rfl))
  t3 := Tryz.underlying3
  a3 := Tryz.isAgg3
  z3 := Tryz.sizeOf3
  v3 := Tryz.zeroValue3
  t4 := Tryz.underlying4
  a4 := Tryz.isAgg4
  z4 := Tryz.sizeOf4
  v4 := Tryz.zeroValue4
  t5 := Tryz.underlying5
  a5 := Tryz.isAgg5
  z5 := Tryz.sizeOf5
  v5 := Tryz.zeroValue5
  t9 := Tryz.underlying9
  a9 := Tryz.isAgg9
  z9 := Tryz.sizeOf9
  v9 := Tryz.zeroValue9
  t46 := Tryz.underlying110
  a46 := Tryz.isAgg110
  z46 := Tryz.sizeOf110
  v46 := Tryz.zeroValue110
  t51 := Tryz.underlying132
  a51 := Tryz.isAgg132
  z51 := Tryz.sizeOf132
  v51 := Tryz.zeroValue132
  t59 := Tryz.underlying59
  a59 := Tryz.isAgg59
  z59 := Tryz.sizeOf59
  v59 := Tryz.zeroValue59
  t146 := Tryz.underlying133
  a146 := Tryz.isAgg133
  z146 := Tryz.sizeOf133
  v146 := Tryz.zeroValue133
  g1 := by kernel_rfl }
open Go.RowKit Go.Lib in
/-- strings.Cut: "Cut slices s around the first instance of sep, returning the text before and after sep. The found result reports whether sep appears in s. If sep does not appear in s, cut returns s, "", false.": IT RETURNS 'Lib.cut s sep'; the world is as it was but for the count of draws. (LAID: no walk: one application.) -/
theorem Tryz.strings_Cut (s sep : ByteArray) (m : Int) (w : World) (hs : s.size < 4294967281) (hm : w.cell? ⟨0, 0, none⟩ = some (.int .i64 m)) :
    Calls Tryz.prog 27 #[.string s, .string sep] w fun e w' => e = .returned (.tuple #[.string ⟨(Lib.cut s.data.toList sep.data.toList).1.toArray⟩, .string ⟨(Lib.cut s.data.toList sep.data.toList).2.1.toArray⟩, .bool (Lib.cut s.data.toList sep.data.toList).2.2]) ∧ ∃ n, w' = w.drewN n := Any.strings_Cut Tryz.lays145 s sep m w hs hm
def Tryz.lays146_ren : Go.Shelf.Ren := ⟨fun | 146 => 56 | 221 => 71 | 268 => 83 | 138 => 84 | 143 => 85 | 195 => 101 | 197 => 102 | 218 => 103 | 219 => 72 | 260 => 117 | 217 => 86 | 225 => 87 | 224 => 88 | 267 => 89 | 266 => 104 | 314 => 105 | n => n, fun | 9 => 9 | 31 => 56 | 3 => 3 | 4 => 4 | 0 => 0 | 105 => 130 | 21 => 21 | 5 => 5 | 46 => 110 | 119 => 150 | 139 => 153 | 138 => 152 | 146 => 133 | 51 => 132 | n => n, fun | 1 => 0 | 3 => 4 | 4 => 5 | n => n⟩
theorem Tryz.lays146 : Go.Proofs.Lays.n146 Tryz.prog Tryz.lays146_ren := {
  mixed := by kernel_rfl
  f138 := Tryz.func84.trans (congrArg some (by kernel_rfl))
  f143 := Tryz.func85.trans (congrArg some (by kernel_rfl))
  f146 := Tryz.func56.trans (congrArg some (by kernel_rfl))
  f195 := Tryz.func101.trans (congrArg some (by kernel_rfl))
  f197 := Tryz.func102.trans (congrArg some (by kernel_rfl))
  f217 := Tryz.func86.trans (congrArg some (by kernel_rfl))
  f218 := Tryz.func103.trans (congrArg some (by kernel_rfl))
  f219 := Tryz.func72.trans (congrArg some (by kernel_rfl))
  f221 := Tryz.func71.trans (congrArg some (by kernel_rfl))
  f224 := Tryz.func88.trans (congrArg some (by kernel_rfl))
  f225 := Tryz.func87.trans (congrArg some (by kernel_rfl))
  f260 := Tryz.func117.trans (congrArg some (by kernel_rfl))
  f266 := Tryz.func104.trans (congrArg some (by kernel_rfl))
  f267 := Tryz.func89.trans (congrArg some (by kernel_rfl))
  f268 := Tryz.func83.trans (congrArg some (by kernel_rfl))
  f314 := Tryz.func105.trans (congrArg some (by kernel_rfl))
  t0 := Tryz.underlying0
  a0 := Tryz.isAgg0
  z0 := Tryz.sizeOf0
  v0 := Tryz.zeroValue0
  t3 := Tryz.underlying3
  a3 := Tryz.isAgg3
  z3 := Tryz.sizeOf3
  v3 := Tryz.zeroValue3
  t4 := Tryz.underlying4
  a4 := Tryz.isAgg4
  z4 := Tryz.sizeOf4
  v4 := Tryz.zeroValue4
  t5 := Tryz.underlying5
  a5 := Tryz.isAgg5
  z5 := Tryz.sizeOf5
  v5 := Tryz.zeroValue5
  t9 := Tryz.underlying9
  a9 := Tryz.isAgg9
  z9 := Tryz.sizeOf9
  v9 := Tryz.zeroValue9
  t21 := Tryz.underlying21
  a21 := Tryz.isAgg21
  z21 := Tryz.sizeOf21
  v21 := Tryz.zeroValue21
  t31 := Tryz.underlying56
  a31 := Tryz.isAgg56
  z31 := Tryz.sizeOf56
  v31 := Tryz.zeroValue56
  t46 := Tryz.underlying110
  a46 := Tryz.isAgg110
  z46 := Tryz.sizeOf110
  v46 := Tryz.zeroValue110
  t51 := Tryz.underlying132
  a51 := Tryz.isAgg132
  z51 := Tryz.sizeOf132
  v51 := Tryz.zeroValue132
  t105 := Tryz.underlying130
  a105 := Tryz.isAgg130
  z105 := Tryz.sizeOf130
  v105 := Tryz.zeroValue130
  t119 := Tryz.underlying150
  a119 := Tryz.isAgg150
  z119 := Tryz.sizeOf150
  t138 := Tryz.underlying152
  a138 := Tryz.isAgg152
  z138 := Tryz.sizeOf152
  v138 := Tryz.zeroValue152
  t139 := Tryz.underlying153
  a139 := Tryz.isAgg153
  z139 := Tryz.sizeOf153
  v139 := Tryz.zeroValue153
  t146 := Tryz.underlying133
  a146 := Tryz.isAgg133
  z146 := Tryz.sizeOf133
  v146 := Tryz.zeroValue133
  g1 := by kernel_rfl
  g3 := by kernel_rfl
  g4 := by kernel_rfl }
open Go.RowKit Go.Lib in
/-- strings.Split. (LAID: no walk: one application.) -/
theorem Tryz.strings_Split (s sep : ByteArray) (m : Int) (w : World) (hs : s.size < 4294967281) (hm : w.cell? ⟨0, 0, none⟩ = some (.int .i64 m)) (h1 : 1 ≤ sep.size) :
    Calls Tryz.prog 56 #[.string s, .string sep] w fun e w' =>
      e = .returned (.slice (some ⟨w.heap.size, 0, none⟩) (Lib.countB s sep + 1) (Lib.countB s sep + 1)) ∧ w' = w.alloc (.cells ((Lib.splitB sep 0 (Lib.countB s sep) s).map Value.string).toArray 9) := Any.strings_Split Tryz.lays146 (by kernel_rfl) s sep m w hs hm h1
end Go.Proofs

/- What these functions of the program hand back, each proved by walking its operations. -/
set_option linter.unusedVariables false
set_option linter.unusedSimpArgs false
set_option maxRecDepth 4000
namespace Go.Proofs.YtniimollalcjnaaGreatDoor
open Go Go.Sx Go.RowKit Go.W Go.Proofs
attribute [local irreducible] Ex ExL ExD Op1 Free RetQ MutQ Reads CellO SegO LoadsAs
theorem e_56 : Enters Tryz.prog 56 := Enters.of Tryz.func56 rfl
theorem c_Split (t : List UInt8) (c : UInt8) (hl : t.length ≤ 1048576) : Ret Tryz.prog 56 [sv t, sv [c]] (fun w => RdO 0 1 2 w) (fun x : Nat => .slice (some ⟨x, 0, none⟩) (splitA c [] t).length (splitA c [] t).length) (fun x => [.row (.slice (some ⟨x, 0, none⟩) (splitA c [] t).length (splitA c [] t).length) 9 1 (splitA c [] t).length ((splitA c [] t).flatMap eSt)]) (fun _ => True) := by
  refine ⟨e_56, fun w hr => ?_⟩
  obtain ⟨m, hm⟩ := hr.max
  have hz : (mkB t).size = t.length := rfl
  refine (Go.Proofs.Tryz.strings_Split (mkB t) (mkB [c]) m w (by omega) hm (by show 1 ≤ 1; decide)).mono ?_
  rintro e w' ⟨rfl, rfl⟩
  obtain ⟨h1, h2⟩ := split_row (T := 9) (w := w) c t (by omega)
  exact ⟨w.heap.size, trivial, congrArg _ h1, below_alloc _ _, by simpa using h2, by simp⟩
theorem e_27 : Enters Tryz.prog 27 := Enters.of Tryz.func27 rfl
theorem c_Cut (t : List UInt8) (c : UInt8) (hl : t.length ≤ 1048576) : Ret Tryz.prog 27 [sv t, sv [c]] (fun w => RdO 0 1 2 w) (fun _ : Unit => .tuple #[sv (Lib.cut t [c]).1, sv (Lib.cut t [c]).2.1, .bool (Lib.cut t [c]).2.2]) (fun _ => []) (fun _ => True) := by
  refine ⟨e_27, fun w hr => ?_⟩
  obtain ⟨m, hm⟩ := hr.max
  have hz : (mkB t).size = t.length := rfl
  refine (Go.Proofs.Tryz.strings_Cut (mkB t) (mkB [c]) m w (by omega) hm).mono ?_
  rintro e w' ⟨rfl, n, rfl⟩
  exact ⟨(), trivial, rfl, below_drew _ _, by simp, List.Pairwise.nil⟩
theorem e_58 : Enters Tryz.prog 58 := Enters.of Tryz.func58 rfl
theorem c_ParseInt (t : List UInt8) (hl : t.length ≤ 1048576) : Ret Tryz.prog 58 [sv t, .int .i64 10, .int .i64 64] (fun w => RdO 0 1 2 w) (fun x : Int × Bool × TypeId × Value => .tuple #[.int .i64 x.1, errV x.2.1 x.2.2.1 x.2.2.2]) (fun _ => []) (fun x => PInt t x.1 x.2.1) := by
  refine ⟨e_58, fun w hr => ?_⟩
  have hz : (mkB t).size = t.length := rfl
  cases h : Lib.parseIntB 64 t with
  | ok v =>
    refine (Go.Proofs.Tryz.strconv_ParseInt_10_at64_ok (mkB t) (by omega) v h w).mono ?_
    rintro e w' ⟨rfl, hw⟩
    refine ⟨(v, true, 0, .nilIface), pint_ok h, rfl, ?_, by simp, List.Pairwise.nil⟩
    rcases hw with rfl | ⟨u, rfl⟩
    · exact Below.refl _ _
    · exact Lib.bytesWorld_below _ _ _
  | range =>
    obtain ⟨ev, hv, hev⟩ := hr.rng
    refine (Go.Proofs.Tryz.strconv_ParseInt_10_at64_range (mkB t) (by omega) h ev w hv hev).mono ?_
    rintro e w' ⟨N, rfl, _, _, hb⟩
    exact ⟨(Lib.intSat 64 t, false, _, _), pint_rng h, rfl, hb, by simp, List.Pairwise.nil⟩
  | _ =>
    obtain ⟨ev, hv, hev⟩ := hr.syn
    refine (Go.Proofs.Tryz.strconv_ParseInt_10_at64_syntax (mkB t) (by omega) h ev w hv hev).mono ?_
    rintro e w' ⟨N, rfl, _, _, hb⟩
    exact ⟨(0, false, _, _), pint_syn (fun z e => by rw [h] at e; cases e), rfl, hb, by simp, List.Pairwise.nil⟩
theorem e_26 : Enters Tryz.prog 26 := Enters.of Tryz.func26 rfl
theorem c_linesOf (t : List UInt8) (hl : t.length ≤ 1048576) : Ret Tryz.prog 26 [sv t] (fun w => RdO 0 1 2 w) (fun x : Nat => .tuple #[.slice (some ⟨x, 0, none⟩) ((splitA 10 [] t).length - 1) (splitA 10 [] t).length, .bool (decide ((splitA 10 [] t).getD ((splitA 10 [] t).length - 1) [] = []))]) (fun x => [.row (.slice (some ⟨x, 0, none⟩) (splitA 10 [] t).length (splitA 10 [] t).length) 9 1 (splitA 10 [] t).length ((splitA 10 [] t).flatMap eSt)]) (fun x => True) := by
  refine Ret.of e_26 Tryz.func26 rfl Tryz.ntmps26 rfl rfl (fun w hpre => ?_)
  have hrd := hpre
  have hpp := splitA_pos 10 t
  have hpn := splitA_len 10 t []
  have hm0 : maxLen = 9223372036854775807 := rfl
  refine Ex.regSeq (ExL.pures 2 rfl ?_)
  refine ExL.nil ?_
  refine Ex.regSeq (ExL.pures 1 rfl ?_)
  refine ExL.op rfl (op_ret rfl rfl rfl (c_Split t 10 (by omega)) (fun w hw => RdO.keep hrd hw) rfl rfl (fun x1 hx1 => ?_))
  refine ExL.pures 1 rfl ?_
  refine ExL.nil ?_
  refine Ex.regSeq (ExL.pures 2 rfl ?_)
  refine ExL.free (by first | exact fr_sub64 rfl rfl rfl (by omega) | exact fr_sub rfl rfl rfl) rfl rfl rfl ?_
  refine ExL.pures 1 rfl ?_
  refine ExL.nil ?_
  refine Ex.drawSeqM rfl ?_
  refine ExD.take (i := 0) rfl (by kernel_rfl) (pureVal_ok rfl) ((List.Sublist.refl _)) rfl rfl rfl ?_
  refine ExD.take (i := 1) rfl (by kernel_rfl) (pureVal_ok rfl) ((List.Sublist.refl _)) rfl rfl rfl ?_
  refine ExD.take (i := 2) rfl (by kernel_rfl) (fr_slice_h (sz := 1) (((splitA 10 [] t).length - 1)) (by first | rfl | (push_cast; rfl) | omega) rfl rfl rfl rfl rfl (by omega)) ((List.Sublist.refl _)) rfl rfl rfl ?_
  refine ExD.take (i := 3) rfl (by kernel_rfl) (pureVal_ok rfl) ((List.Sublist.refl _)) rfl rfl rfl ?_
  refine ExD.take (i := 4) rfl (by kernel_rfl) (pureVal_ok rfl) ((List.Sublist.refl _)) rfl rfl rfl ?_
  refine ExD.take (i := 5) rfl (by kernel_rfl) (fr_indexAddr (sz := 1) rfl rfl rfl rfl rfl rfl (by omega)) ((List.Sublist.refl _)) rfl rfl rfl ?_
  refine ExD.take (i := 6) rfl (by kernel_rfl) (fr_load rfl rfl rfl rfl (cellJ (((splitA 10 [] t).length - 1)) (Reads.row (i := 0) rfl) eSt_len ([] : List UInt8) 0 rfl (by omega) (by omega) rfl)) ((List.Sublist.refl _)) rfl rfl rfl ?_
  refine ExD.take (i := 7) rfl (by kernel_rfl) (fr_eqlS (l := ((splitA 10 [] t).getD ((splitA 10 [] t).length - 1) [])) (r := []) rfl rfl rfl) ((List.Sublist.refl _)) rfl rfl rfl ?_
  refine ExD.take (i := 8) rfl (by kernel_rfl) (pureVal_ok rfl) ((List.Sublist.refl _)) rfl rfl rfl ?_
  refine ExD.take (i := 9) rfl (by kernel_rfl) (pureVal_ok rfl) ((List.Sublist.refl _)) rfl rfl rfl ?_
  refine ExD.done (by kernel_rfl) ?_
  refine Ex.ret ?_
  refine RetQ.mk _ rfl (.tmp rfl (.tmp rfl .nil)) (rfl) [0] (rfl) rfl (trivial)
end Go.Proofs.YtniimollalcjnaaGreatDoor

/- What these functions of the program hand back, each proved by walking its operations. -/
set_option linter.unusedVariables false
set_option linter.unusedSimpArgs false
set_option maxRecDepth 4000
namespace Go.Proofs.YtniimollalcjnaaGreatDoor
open Go Go.Sx Go.RowKit Go.W Go.Proofs
attribute [local irreducible] Ex ExL ExD Op1 Free RetQ MutQ Reads CellO SegO LoadsAs
theorem e_60 : Enters Tryz.prog 60 := Enters.of Tryz.func60 rfl
theorem c_FormatInt (n : Int) (hn : -9223372036854775808 ≤ n ∧ n ≤ 9223372036854775807) : Ret Tryz.prog 60 [.int .i64 n, .int .i64 10] (fun w => TabO Tryz.prog w) (fun _ : Unit => sv (Lib.itoa n)) (fun _ => []) (fun _ => True) :=
  ⟨e_60, fun w ht => (Go.Proofs.Tryz.strconv_FormatInt_10 n hn.1 hn.2 w ht).mono (by rintro e w' ⟨rfl, q, os, rfl⟩; exact ⟨(), trivial, rfl, below_grw w q os, by simp, List.Pairwise.nil⟩)⟩
theorem e_30 : Enters Tryz.prog 30 := Enters.of Tryz.func30 rfl
theorem c_decimal (n : Int) (hn : -9223372036854775808 ≤ n ∧ n ≤ 9223372036854775807) : Ret Tryz.prog 30 [.int .i64 n] (fun w => TabO Tryz.prog w) (fun x : Unit => sv (Lib.itoa n)) (fun x => []) (fun x => True) := by
  refine Ret.of e_30 Tryz.func30 rfl Tryz.ntmps30 rfl rfl (fun w hpre => ?_)
  have htab := hpre
  refine Ex.regSeq (ExL.pures 1 rfl ?_)
  refine ExL.nil ?_
  refine Ex.regSeq (ExL.pures 1 rfl ?_)
  refine ExL.op rfl (op_ret rfl rfl rfl (c_FormatInt n (by omega)) (fun w hw => TabO.keep htab hw) rfl rfl (fun x1 hx1 => ?_))
  refine ExL.pures 1 rfl ?_
  refine ExL.nil ?_
  refine Ex.ret ?_
  refine RetQ.mk () rfl (.tmp rfl .nil) (rfl) [] (rfl) rfl (trivial)
end Go.Proofs.YtniimollalcjnaaGreatDoor

/- What these functions of the program hand back, each proved by walking its operations. -/
set_option linter.unusedVariables false
set_option linter.unusedSimpArgs false
set_option maxRecDepth 4000
namespace Go.Proofs.YtniimollalcjnaaGreatDoor
open Go Go.Sx Go.RowKit Go.W Go.Proofs
attribute [local irreducible] Ex ExL ExD Op1 Free RetQ MutQ Reads CellO SegO LoadsAs
theorem e_28 : Enters Tryz.prog 28 := Enters.of Tryz.func28 rfl
theorem c_readDecimal (t : List UInt8) (hl : t.length ≤ 1048576) : Ret Tryz.prog 28 [sv t] (fun w => RdO 0 1 2 w ∧ TabO Tryz.prog w) (fun x : Int × Bool => .tuple #[.int .i64 x.1, .bool x.2]) (fun x => []) (fun x => RDec t x) := by
  refine Ret.of e_28 Tryz.func28 rfl Tryz.ntmps28 rfl rfl (fun w hpre => ?_)
  have hrd := hpre.1
  have htab := hpre.2
  have hm0 : maxLen = 9223372036854775807 := rfl
  refine Ex.regSeq (ExL.pures 2 rfl ?_)
  refine ExL.nil ?_
  refine Ex.regSeq (ExL.pures 1 rfl ?_)
  refine ExL.op rfl (op_ret rfl rfl rfl (c_ParseInt t (by omega)) (fun w hw => RdO.keep hrd hw) rfl rfl (fun x1 hx1 => ?_))
  have hbx1 : -9223372036854775808 ≤ x1.1 ∧ x1.1 ≤ 9223372036854775807 := hx1.1
  refine ExL.pures 5 rfl ?_
  refine ExL.nil ?_
  refine Ex.regSeq (ExL.pures 2 rfl ?_)
  refine ExL.free (fr_eql_err rfl rfl rfl rfl) rfl rfl rfl ?_
  refine ExL.pures 1 rfl ?_
  refine ExL.bool (d := 14) rfl (fun hb2 => ?_) (fun hb2 => ?_)
  · refine ExL.pures 1 rfl ?_
    refine ExL.op rfl (op_ret rfl rfl rfl (c_decimal x1.1 (by omega)) (fun w hw => TabO.keep htab hw) rfl rfl (fun x3 hx3 => ?_))
    refine ExL.pures 1 rfl ?_
    refine ExL.free (fr_eqlS (l := Lib.itoa x1.1) (r := t) rfl rfl rfl) rfl rfl rfl ?_
    refine ExL.pures 3 rfl ?_
    refine ExL.nil ?_
    refine Ex.ret ?_
    refine RetQ.mk (x1.1, decide (Lib.itoa x1.1 = t)) rfl (.tmp rfl (.tmp rfl .nil)) (rfl) [] (rfl) rfl (rdec_t hx1 (by assumption))
  · refine ExL.pures 7 rfl ?_
    refine ExL.nil ?_
    refine Ex.ret ?_
    refine RetQ.mk (x1.1, false) rfl (.tmp rfl (.tmp rfl .nil)) (rfl) [] (rfl) rfl (rdec_f hx1 (by assumption))
end Go.Proofs.YtniimollalcjnaaGreatDoor

/- What these functions of the program hand back, each proved by walking its operations. -/
set_option linter.unusedVariables false
set_option linter.unusedSimpArgs false
set_option maxRecDepth 4000
namespace Go.Proofs.YtniimollalcjnaaGreatDoor
open Go Go.Sx Go.RowKit Go.W Go.Proofs
attribute [local irreducible] Ex ExL ExD Op1 Free RetQ MutQ Reads CellO SegO LoadsAs
theorem e_59 : Enters Tryz.prog 59 := Enters.of Tryz.func59 rfl
theorem copyCheck_n (b : Nat) (A : Option Addr) (n c : Nat) : Mut Tryz.prog 59 [.pointer (some ⟨b, 0, none⟩)] [.blk b [.pointer none, .slice A n c] 65] (fun base w0 F => True) (fun x : Unit => .tuple #[]) (fun x => [.blk b [.pointer (some ⟨b, 0, none⟩), .slice A n c] 65]) (fun x => True) := by
  refine Mut.of e_59 Tryz.func59 rfl Tryz.ntmps59 rfl rfl (fun base w0 F hfr => ?_)
  refine Ex.regSeq (ExL.pures 3 rfl ?_)
  refine ExL.free (fr_load rfl rfl rfl rfl (CellO.blk (i := 0) rfl rfl)) rfl rfl rfl ?_
  refine ExL.free (fr_eql_ptr_n rfl rfl rfl rfl) rfl rfl rfl ?_
  refine ExL.nil ?_
  refine Ex.cond_t rfl ?_
  refine Ex.region (ExL.pures 2 rfl ?_)
  refine ExL.free (fr_toUnsafe (i := 0) rfl rfl rfl rfl rfl rfl rfl rfl) rfl rfl rfl ?_
  refine ExL.free (fr_noEsc rfl rfl rfl rfl Tryz.func75 (by kernel_rfl) rfl (by kernel_rfl) (by kernel_rfl)) rfl rfl rfl ?_
  refine ExL.free (fr_fromUnsafe (i := 0) rfl rfl rfl rfl rfl rfl (by kernel_rfl)) rfl rfl rfl ?_
  refine ExL.pures 2 rfl ?_
  refine ExL.op rfl (op_storeC (i := 0) rfl rfl rfl rfl rfl rfl rfl rfl rfl rfl ?_)
  refine ExL.nil ?_
  refine MutQ.mk () rfl .nil (rfl) 1 [0] (rfl) rfl (trivial)
theorem copyCheck_s (b : Nat) (A : Option Addr) (n c : Nat) : Mut Tryz.prog 59 [.pointer (some ⟨b, 0, none⟩)] [.blk b [.pointer (some ⟨b, 0, none⟩), .slice A n c] 65] (fun base w0 F => True) (fun x : Unit => .tuple #[]) (fun x => [.blk b [.pointer (some ⟨b, 0, none⟩), .slice A n c] 65]) (fun x => True) := by
  refine Mut.of e_59 Tryz.func59 rfl Tryz.ntmps59 rfl rfl (fun base w0 F hfr => ?_)
  refine Ex.regSeq (ExL.pures 3 rfl ?_)
  refine ExL.free (fr_load rfl rfl rfl rfl (CellO.blk (i := 0) rfl rfl)) rfl rfl rfl ?_
  refine ExL.free (fr_eql_ptr_s rfl rfl rfl rfl) rfl rfl rfl ?_
  refine ExL.nil ?_
  refine Ex.cond_f rfl ?_
  refine Ex.regSeq (ExL.pures 3 rfl ?_)
  refine ExL.free (fr_load rfl rfl rfl rfl (CellO.blk (i := 0) rfl rfl)) rfl rfl rfl ?_
  refine ExL.pures 1 rfl ?_
  refine ExL.free (fr_neq_ptr_same rfl rfl rfl rfl rfl) rfl rfl rfl ?_
  refine ExL.nil ?_
  refine Ex.cond_f rfl ?_
  refine Ex.skip ?_
  refine MutQ.mk () rfl .nil (rfl) 1 [0] (rfl) rfl (trivial)
theorem copyCheck_j (b : Nat) (u : Bool) (A : Option Addr) (n c : Nat) : Mut Tryz.prog 59 [.pointer (some ⟨b, 0, none⟩)] [.blk b [bp b u, .slice A n c] 65] (fun _ _ _ => True) (fun _ : Unit => .tuple #[]) (fun _ => [.blk b [bp b true, .slice A n c] 65]) (fun _ => True) := by
  cases u
  · exact copyCheck_n b A n c
  · exact copyCheck_s b A n c
theorem e_29 : Enters Tryz.prog 29 := Enters.of Tryz.func29 rfl
theorem c_WriteString (b : Nat) (u : Bool) (xs : List UInt8) (A : Option Addr) (c : Nat) (l : List UInt8) (hb : xs.length + l.length ≤ 140737488355328) : Mut Tryz.prog 29 [.pointer (some ⟨b, 0, none⟩), sv l] [.blk b [bp b u, .slice A xs.length c] 65, .row (.slice A xs.length c) 5 1 xs.length (xs.flatMap eU)] (fun base w0 F => True) (fun x : Option Addr × Nat => .tuple #[.int .i64 l.length, .nilIface]) (fun x => [.blk b [bp b true, .slice x.1 (xs ++ l).length x.2] 65, .row (.slice x.1 (xs ++ l).length x.2) 5 1 (xs ++ l).length ((xs ++ l).flatMap eU)]) (fun x => True) := by
  refine Mut.of e_29 Tryz.func29 rfl Tryz.ntmps29 rfl rfl (fun base w0 F hfr => ?_)
  refine Ex.regSeq (ExL.pures 2 rfl ?_)
  refine ExL.nil ?_
  refine Ex.regSeq (ExL.pures 1 rfl ?_)
  refine ExL.op rfl (op_mut rfl rfl rfl (copyCheck_j b u _ _ _) (perm_at (i := 0) rfl) (trivial) rfl rfl (fun x1 hx1 => ?_))
  refine ExL.nil ?_
  refine Ex.regSeq (ExL.pures 4 rfl ?_)
  refine ExL.free (fr_load rfl rfl rfl rfl (CellO.blk (i := 0) rfl rfl)) rfl rfl rfl ?_
  refine ExL.pures 1 rfl ?_
  refine ExL.op rfl (op_appendT (xs := xs) (l := l) (i := 1) rfl rfl rfl rfl rfl rfl rfl rfl (by omega) rfl rfl (fun A2 cA2 => ?_))
  refine ExL.pures 2 rfl ?_
  refine ExL.op rfl (op_storeC (i := 0) rfl rfl rfl rfl rfl rfl rfl rfl rfl rfl ?_)
  refine ExL.nil ?_
  refine Ex.regSeq (ExL.pures 1 rfl ?_)
  refine ExL.free (fr_lenS (l := l) rfl rfl rfl) rfl rfl rfl ?_
  refine ExL.pures 2 rfl ?_
  refine ExL.nil ?_
  refine Ex.ret ?_
  refine MutQ.mk (A2, cA2) rfl (.tmp rfl (.tmp rfl .nil)) (rfl) 2 [0, 1] (rfl) rfl (trivial)
theorem e_31 : Enters Tryz.prog 31 := Enters.of Tryz.func31 rfl
theorem c_String_0 (b : Nat) (u : Bool) : Mut Tryz.prog 31 [.pointer (some ⟨b, 0, none⟩)] [.blk b [bp b u, .slice none 0 0] 65] (fun base w0 F => True) (fun x : Unit => sv []) (fun x => []) (fun x => True) := by
  refine Mut.of e_31 Tryz.func31 rfl Tryz.ntmps31 rfl rfl (fun base w0 F hfr => ?_)
  refine Ex.regSeq (ExL.pures 1 rfl ?_)
  refine ExL.nil ?_
  refine Ex.drawSeqM rfl ?_
  refine ExD.take (i := 0) rfl (by kernel_rfl) (pureVal_ok rfl) ((List.Sublist.refl _)) rfl rfl rfl ?_
  refine ExD.take (i := 1) rfl (by kernel_rfl) (pureVal_ok rfl) ((List.Sublist.refl _)) rfl rfl rfl ?_
  refine ExD.take (i := 2) rfl (by kernel_rfl) (pureVal_ok rfl) ((List.Sublist.refl _)) rfl rfl rfl ?_
  refine ExD.take (i := 3) rfl (by kernel_rfl) (fr_load rfl rfl rfl rfl (CellO.blk (i := 0) rfl rfl)) ((List.Sublist.refl _)) rfl rfl rfl ?_
  refine ExD.take (i := 4) rfl (by kernel_rfl) (fr_sliceData_n rfl rfl) ((List.Sublist.refl _)) rfl rfl rfl ?_
  refine ExD.take (i := 5) rfl (by kernel_rfl) (pureVal_ok rfl) ((List.Sublist.refl _)) rfl rfl rfl ?_
  refine ExD.take (i := 6) rfl (by kernel_rfl) (pureVal_ok rfl) ((List.Sublist.refl _)) rfl rfl rfl ?_
  refine ExD.take (i := 7) rfl (by kernel_rfl) (pureVal_ok rfl) ((List.Sublist.refl _)) rfl rfl rfl ?_
  refine ExD.take (i := 8) rfl (by kernel_rfl) (fr_load rfl rfl rfl rfl (CellO.blk (i := 0) rfl rfl)) ((List.Sublist.refl _)) rfl rfl rfl ?_
  refine ExD.take (i := 9) rfl (by kernel_rfl) (pureVal_ok rfl) ((List.Sublist.refl _)) rfl rfl rfl ?_
  refine ExD.take (i := 10) rfl (by kernel_rfl) (fr_unsafeString_n rfl rfl rfl) ((List.Sublist.refl _)) rfl rfl rfl ?_
  refine ExD.take (i := 11) rfl (by kernel_rfl) (pureVal_ok rfl) ((List.Sublist.refl _)) rfl rfl rfl ?_
  refine ExD.done (by kernel_rfl) ?_
  refine Ex.ret ?_
  refine MutQ.mk () rfl (.tmp rfl .nil) (rfl) 1 [] (rfl) rfl (trivial)
theorem c_String_1 (b : Nat) (u : Bool) (xs : List UInt8) (A : Option Addr) (c : Nat) (h0 : 0 < xs.length) : Mut Tryz.prog 31 [.pointer (some ⟨b, 0, none⟩)] [.blk b [bp b u, .slice A xs.length c] 65, .row (.slice A xs.length c) 5 1 xs.length (xs.flatMap eU)] (fun base w0 F => True) (fun x : Unit => sv xs) (fun x => []) (fun x => True) := by
  refine Mut.of e_31 Tryz.func31 rfl Tryz.ntmps31 rfl rfl (fun base w0 F hfr => ?_)
  refine Ex.know (row_own (i := 1) rfl h0) (fun ⟨g, hg, hc0⟩ => ?_)
  subst hg
  refine Ex.regSeq (ExL.pures 1 rfl ?_)
  refine ExL.nil ?_
  refine Ex.drawSeqI [0] rfl rfl ?_
  refine ExD.take (i := 0) rfl (by kernel_rfl) (pureVal_ok rfl) ((List.Sublist.cons_cons _ (List.nil_sublist _))) rfl rfl rfl ?_
  refine ExD.take (i := 1) rfl (by kernel_rfl) (pureVal_ok rfl) ((List.Sublist.cons_cons _ (List.nil_sublist _))) rfl rfl rfl ?_
  refine ExD.take (i := 2) rfl (by kernel_rfl) (pureVal_ok rfl) ((List.Sublist.cons_cons _ (List.nil_sublist _))) rfl rfl rfl ?_
  refine ExD.take (i := 3) rfl (by kernel_rfl) (fr_load rfl rfl rfl rfl (CellO.blk (i := 0) rfl rfl)) ((List.Sublist.cons_cons _ (List.nil_sublist _))) rfl rfl rfl ?_
  refine ExD.take (i := 4) rfl (by kernel_rfl) (fr_sliceData rfl rfl hc0) ((List.Sublist.cons_cons _ (List.nil_sublist _))) rfl rfl rfl ?_
  refine ExD.take (i := 5) rfl (by kernel_rfl) (pureVal_ok rfl) ((List.Sublist.cons_cons _ (List.nil_sublist _))) rfl rfl rfl ?_
  refine ExD.take (i := 6) rfl (by kernel_rfl) (pureVal_ok rfl) ((List.Sublist.cons_cons _ (List.nil_sublist _))) rfl rfl rfl ?_
  refine ExD.take (i := 7) rfl (by kernel_rfl) (pureVal_ok rfl) ((List.Sublist.cons_cons _ (List.nil_sublist _))) rfl rfl rfl ?_
  refine ExD.take (i := 8) rfl (by kernel_rfl) (fr_load rfl rfl rfl rfl (CellO.blk (i := 0) rfl rfl)) ((List.Sublist.cons_cons _ (List.nil_sublist _))) rfl rfl rfl ?_
  refine ExD.take (i := 9) rfl (by kernel_rfl) (pureVal_ok rfl) ((List.Sublist.cons_cons _ (List.nil_sublist _))) rfl rfl rfl ?_
  refine ExD.op (i := 10) rfl (by kernel_rfl) rfl (op_unsafeString (i := 1) (l := xs) rfl rfl rfl rfl rfl rfl rfl rfl (by omega) rfl rfl ⟨(List.Sublist.cons_cons _ (List.nil_sublist _)), ?_⟩)
  refine ExD.take (i := 11) rfl (by kernel_rfl) (pureVal_ok rfl) ((List.Sublist.cons_cons _ (List.nil_sublist _))) rfl rfl rfl ?_
  refine ExD.done (by kernel_rfl) ?_
  refine Ex.ret ?_
  refine MutQ.mk () rfl (.tmp rfl .nil) (rfl) 1 [] (rfl) rfl (trivial)
theorem c_String (b : Nat) (u : Bool) (xs : List UInt8) (A : Option Addr) (c : Nat) (h0 : xs = [] → A = none ∧ c = 0) : Mut Tryz.prog 31 [.pointer (some ⟨b, 0, none⟩)] [.blk b [bp b u, .slice A xs.length c] 65, .row (.slice A xs.length c) 5 1 xs.length (xs.flatMap eU)] (fun _ _ _ => True) (fun _ : Unit => sv xs) (fun _ => []) (fun _ => True) := by
  rcases Nat.eq_zero_or_pos xs.length with h | h
  · obtain rfl := List.eq_nil_of_length_eq_zero h
    obtain ⟨rfl, rfl⟩ := h0 rfl
    exact ⟨(c_String_0 b u).1, fun base w0 F w hf hh => (c_String_0 b u).2 base w0 F w hf (hh.sub (by exact List.Sublist.cons_cons _ (List.Sublist.cons _ (List.Sublist.refl _))))⟩
  · exact c_String_1 b u xs A c h
end Go.Proofs.YtniimollalcjnaaGreatDoor

/- What these functions of the program hand back, each proved by walking its operations. -/
set_option linter.unusedVariables false
set_option linter.unusedSimpArgs false
set_option maxRecDepth 4000
namespace Go.Proofs.YtniimollalcjnaaGreatDoor
open Go Go.Sx Go.RowKit Go.W Go.Proofs
attribute [local irreducible] Ex ExL ExD Op1 Free RetQ MutQ Reads CellO SegO LoadsAs
theorem e_7 : Enters Tryz.prog 7 := Enters.of Tryz.func7 rfl
theorem c_iTotalsText (l : List VP) (Al : Option Addr) (cl : Nat) (hll : l.length ≤ maxLen) : Ret Tryz.prog 7 [.slice Al l.length cl] (fun w => Rd w Al (l.flatMap encP) ∧ TabO Tryz.prog w) (fun x : Unit => sv (totTx l)) (fun x => []) (fun x => True) := by
  refine Ret.of e_7 Tryz.func7 rfl Tryz.ntmps7 rfl rfl (fun w hpre => ?_)
  have hl := hpre.1.base
  have htab := hpre.2
  have hm0 : maxLen = 9223372036854775807 := rfl
  refine Ex.regSeq (ExL.pures 1 rfl ?_)
  refine ExL.nil ?_
  refine Ex.seq ?_
  refine Ex.regSeq (ExL.pures 1 rfl ?_)
  refine ExL.op rfl (op_ret rfl rfl rfl (c_ValidTotals l _ _ (by omega)) (Reads.get (Reads.old hl)) rfl rfl (fun x1 hx1 => ?_))
  refine ExL.pures 1 rfl ?_
  refine ExL.nil ?_
  refine Ex.cond rfl (fun hb2 => ?_) (fun hb2 => ?_)
  · replace hb2 := nb_t hb2
    refine Ex.regSeq (ExL.pures 1 rfl ?_)
    refine ExL.nil ?_
    refine Ex.ret ?_
    refine RetQ.mk () rfl (.tmp rfl .nil) (tS (by first | exact (totTx_f (by assumption)).symm | exact hlast)) [] (rfl) rfl (trivial)
  · replace hb2 := nb_f hb2
    refine Ex.skip ?_
    refine Ex.regSeq (ExL.pures 0 rfl ?_)
    refine ExL.free (fr_build rfl rfl rfl rfl) rfl rfl rfl ?_
    refine ExL.op rfl (op_alloc rfl rfl rfl rfl rfl (fun b3 => ?_))
    refine ExL.op rfl (op_storeC (i := 0) rfl rfl rfl rfl rfl rfl rfl rfl rfl rfl ?_)
    refine ExL.nil ?_
    refine Ex.seq ?_
    refine Ex.nilRow 5 1 ?_
    refine Ex.regSeq (ExL.pures 3 rfl ?_)
    refine ExL.nil ?_
    refine Ex.block ?_
    refine Ex.loopK (X := BdS) (fun q => [(12, .int .i64 q.k)]) (fun q => [.blk b3 [bp b3 q.u, .slice q.A (tText l q.k).length q.c] 65, .row (.slice q.A (tText l q.k).length q.c) 5 1 (tText l q.k).length ((tText l q.k).flatMap eU)]) (fun q => q.k ≤ l.length ∧ (tText l q.k = [] → q.A = none ∧ q.c = 0)) (fun q => l.length - q.k) (⟨0, false, none, 0⟩ : BdS) [(2, _), (3, _), (10, _), (11, _)] [] 2 [1, 0] ⟨rfl, trivial⟩ ⟨rfl, rfl, rfl, rfl, trivial⟩ (rfl) rfl ⟨Nat.zero_le _, fun _ => ⟨rfl, rfl⟩⟩ (fun q hI => ?_)
    have hI : q.k ≤ l.length ∧ (tText l q.k = [] → q.A = none ∧ q.c = 0) := hI
    obtain ⟨hkq, hnil⟩ := hI
    refine Ex.regSeq (ExL.pures 0 rfl ?_)
    refine ExL.lss rfl rfl rfl rfl rfl rfl (fun h4 => ?_) (fun h4 => ?_)
    · refine ExL.nil ?_
      refine Ex.seq ?_
      refine Ex.cond_t rfl ?_
      refine Ex.skip ?_
      refine Ex.seq ?_
      refine Ex.block ?_
      have hkl : q.k < l.length := by omega
      have hT := tot (by assumption)
      have hdy := hT.day q.k (by omega)
      have hct := hT.cnt q.k (by omega)
      have hi1 := itoa_le (n := (l.getD q.k zP).a) (by omega)
      have hi2 := itoa_le (n := (l.getD q.k zP).b) (by omega)
      have htx := tText_le hT (k := q.k) (by omega)
      refine Ex.regSeq (ExL.pures 0 rfl ?_)
      refine ExL.free (fr_indexAddrF (Reads.old hl) encP_len rfl rfl rfl rfl rfl rfl (by omega)) rfl rfl rfl ?_
      refine ExL.free (fr_loadN rfl rfl rfl rfl rfl (by first | exact segN (Reads.old hl) encP_len rfl zP (by omega) | exact segF (Reads.old hl) encP_len rfl zP (by omega))) rfl rfl rfl ?_
      refine ExL.op rfl (op_alloc rfl rfl rfl rfl rfl (fun b5 => ?_))
      refine ExL.op rfl (op_storeC (i := 0) rfl rfl rfl rfl rfl rfl rfl rfl rfl rfl ?_)
      refine ExL.nil ?_
      refine Ex.drawI [0] rfl rfl ?_
      refine ExD.take (i := 0) rfl (by kernel_rfl) (pureVal_ok rfl) ((List.Sublist.cons_cons _ (List.nil_sublist _))) rfl rfl rfl ?_
      refine ExD.take (i := 1) rfl (by kernel_rfl) (fr_load rfl rfl rfl rfl (CellO.blk (i := 0) rfl rfl)) ((List.Sublist.cons_cons _ (List.nil_sublist _))) rfl rfl rfl ?_
      refine ExD.take (i := 4) rfl (by kernel_rfl) (pureVal_ok rfl) ((List.Sublist.cons_cons _ (List.nil_sublist _))) rfl rfl rfl ?_
      refine ExD.take (i := 5) rfl (by kernel_rfl) (fr_load rfl rfl rfl rfl (CellO.blk (i := 0) rfl rfl)) ((List.Sublist.cons_cons _ (List.nil_sublist _))) rfl rfl rfl ?_
      refine ExD.op (i := 2) rfl (by kernel_rfl) rfl (op_ret rfl rfl rfl (c_decimal (l.getD q.k zP).a (by omega)) (fun w hw => TabO.keep htab hw) rfl rfl (fun x6 hx6 => ⟨(List.Sublist.cons_cons _ (List.nil_sublist _)), ?_⟩))
      refine ExD.take (i := 3) rfl (by kernel_rfl) (fr_addS (l := Lib.itoa ((l.getD q.k zP).a)) (r := [32]) rfl rfl rfl (by first | omega | (simp only [List.length_append, List.length_cons, List.length_nil]; omega))) ((List.Sublist.cons_cons _ (List.nil_sublist _))) rfl rfl rfl ?_
      refine ExD.op (i := 6) rfl (by kernel_rfl) rfl (op_ret rfl rfl rfl (c_decimal (l.getD q.k zP).b (by omega)) (fun w hw => TabO.keep htab hw) rfl rfl (fun x7 hx7 => ⟨(List.Sublist.cons_cons _ (List.nil_sublist _)), ?_⟩))
      refine ExD.take (i := 7) rfl (by kernel_rfl) (fr_addS (l := (Lib.itoa ((l.getD q.k zP).a) ++ [32])) (r := Lib.itoa ((l.getD q.k zP).b)) rfl rfl rfl (by first | omega | (simp only [List.length_append, List.length_cons, List.length_nil]; omega))) ((List.Sublist.cons_cons _ (List.nil_sublist _))) rfl rfl rfl ?_
      refine ExD.take (i := 8) rfl (by kernel_rfl) (fr_addS (l := ((Lib.itoa ((l.getD q.k zP).a) ++ [32]) ++ Lib.itoa ((l.getD q.k zP).b))) (r := [10]) rfl rfl rfl (by first | omega | (simp only [List.length_append, List.length_cons, List.length_nil]; omega))) ((List.Sublist.cons_cons _ (List.nil_sublist _))) rfl rfl rfl ?_
      refine ExD.op (i := 9) rfl (by kernel_rfl) rfl (op_mut rfl rfl rfl (c_WriteString b3 q.u (tText l q.k) _ _ (((Lib.itoa ((l.getD q.k zP).a) ++ [32]) ++ Lib.itoa ((l.getD q.k zP).b)) ++ [10]) (by first | omega | (simp only [List.length_append, List.length_cons, List.length_nil]; omega))) (perm_lt (i := 1) (j := 2) rfl rfl rfl) (trivial) rfl rfl (fun x8 hx8 => ⟨(List.Sublist.cons _ (List.Sublist.cons _ (List.Sublist.refl _))), ?_⟩))
      refine ExD.done (by kernel_rfl) ?_
      refine Ex.region (ExL.pures 0 rfl ?_)
      refine ExL.free (by first | exact fr_add64 rfl rfl rfl (by omega) | exact fr_add rfl rfl rfl) rfl rfl rfl ?_
      refine ExL.pures 1 rfl ?_
      refine ExL.nil ?_
      refine Hand.mk (⟨q.k + 1, true, x8.1, x8.2⟩ : BdS) 3 [0, 1] ⟨rfl, trivial⟩ ⟨rfl, rfl, rfl, rfl, trivial⟩ (rfl) rfl (⟨by dsimp only; omega, fun h => absurd h (tText_pos (k := q.k + 1) (by omega))⟩) (by dsimp only; omega)
    · refine ExL.nil ?_
      refine Ex.seq ?_
      refine Ex.cond_f rfl ?_
      refine Ex.exit ?_
      have hkn : q.k = l.length := by omega
      have hlast : tText l q.k = totTx l := by rw [hkn]; exact (totTx_t (by assumption)).symm
      refine Ex.regSeq (ExL.pures 0 rfl ?_)
      refine ExL.op rfl (op_mut rfl rfl rfl (c_String b3 q.u (tText l q.k) _ _ (by assumption)) (perm_lt (i := 0) (j := 1) rfl rfl rfl) (trivial) rfl rfl (fun x9 hx9 => ?_))
      refine ExL.pures 1 rfl ?_
      refine ExL.nil ?_
      refine Ex.ret ?_
      refine RetQ.mk () rfl (.tmp rfl .nil) (tS (by first | exact (totTx_f (by assumption)).symm | exact hlast)) [] (rfl) rfl (trivial)
end Go.Proofs.YtniimollalcjnaaGreatDoor

/- What these functions of the program hand back, each proved by walking its operations. -/
set_option linter.unusedVariables false
set_option linter.unusedSimpArgs false
set_option maxRecDepth 4000
namespace Go.Proofs.YtniimollalcjnaaGreatDoor
open Go Go.Sx Go.RowKit Go.W Go.Proofs
attribute [local irreducible] Ex ExL ExD Op1 Free RetQ MutQ Reads CellO SegO LoadsAs
theorem e_6 : Enters Tryz.prog 6 := Enters.of Tryz.func6 rfl
theorem c_iReadTotals (t : List UInt8) (hl : t.length ≤ 1048576) : Ret Tryz.prog 6 [sv t] (fun w => RdO 0 1 2 w ∧ TabO Tryz.prog w) (fun x : RdS VP => .tuple #[.slice x.A x.l.length x.cap, .int .i64 x.code]) (fun x => [.row (.slice x.A x.l.length x.cap) 39 2 x.l.length (x.l.flatMap encP)]) (fun x => TotRd t x) := by
  refine Ret.of e_6 Tryz.func6 rfl Tryz.ntmps6 rfl rfl (fun w hpre => ?_)
  have hrd := hpre.1
  have htab := hpre.2
  have hpp := splitA_pos 10 t
  have hpn := splitA_len 10 t []
  have hm0 : maxLen = 9223372036854775807 := rfl
  refine Ex.regSeq (ExL.pures 2 rfl ?_)
  refine ExL.nil ?_
  refine Ex.regSeq (ExL.pures 1 rfl ?_)
  refine ExL.op rfl (op_ret rfl rfl rfl (c_linesOf t (by omega)) (fun w hw => RdO.keep hrd hw) rfl rfl (fun x1 hx1 => ?_))
  refine ExL.pures 5 rfl ?_
  refine ExL.nil ?_
  refine Ex.seq ?_
  refine Ex.regSeq (ExL.pures 3 rfl ?_)
  refine ExL.bool (d := 23) rfl (fun hb2 => ?_) (fun hb2 => ?_)
  · replace hb2 := nd_t hb2
    refine ExL.pures 4 rfl ?_
    refine ExL.nil ?_
    refine Ex.cond_t rfl ?_
    refine Ex.regSeq (ExL.pures 2 rfl ?_)
    refine ExL.nil ?_
    refine Ex.nilRow 39 2 ?_
    refine Ex.ret ?_
    refine RetQ.mk ⟨[], 5, none, 0⟩ rfl (.tmp rfl (.tmp rfl .nil)) (rfl) [0] (rfl) rfl (.inr ⟨rfl, rfl, by first | exact rd_open (n := (splitA 10 [] t).length - 1) (by omega) (by assumption) | exact rd_60 (by omega) | exact rd_line_no (by omega) hx1 hx1 (.inl (by assumption)) | exact rd_line_no (by omega) hx1 hx1 (.inr (by assumption)) | exact rd_no hqc (by omega) (fun h => by simp_all)⟩)
  · replace hb2 := nd_f hb2
    refine ExL.pures 2 rfl ?_
    refine ExL.gtr rfl rfl rfl rfl rfl rfl (fun h3 => ?_) (fun h3 => ?_)
    · refine ExL.pures 1 rfl ?_
      refine ExL.nil ?_
      refine Ex.cond_t rfl ?_
      refine Ex.regSeq (ExL.pures 2 rfl ?_)
      refine ExL.nil ?_
      refine Ex.nilRow 39 2 ?_
      refine Ex.ret ?_
      refine RetQ.mk ⟨[], 5, none, 0⟩ rfl (.tmp rfl (.tmp rfl .nil)) (rfl) [0] (rfl) rfl (.inr ⟨rfl, rfl, by first | exact rd_open (n := (splitA 10 [] t).length - 1) (by omega) (by assumption) | exact rd_60 (by omega) | exact rd_line_no (by omega) hx1 hx1 (.inl (by assumption)) | exact rd_line_no (by omega) hx1 hx1 (.inr (by assumption)) | exact rd_no hqc (by omega) (fun h => by simp_all)⟩)
    · refine ExL.pures 1 rfl ?_
      refine ExL.nil ?_
      refine Ex.cond_f rfl ?_
      refine Ex.skip ?_
      refine Ex.regSeq (ExL.pures 0 rfl ?_)
      refine ExL.op rfl (op_buildSlice (sz := 2) rfl rfl rfl rfl rfl rfl rfl rfl (by decide) rfl rfl rfl (fun r4 => ?_))
      refine ExL.pures 1 rfl ?_
      refine ExL.nil ?_
      refine Ex.seq ?_
      refine Ex.regSeq (ExL.pures 3 rfl ?_)
      refine ExL.nil ?_
      refine Ex.block ?_
      refine Ex.loopK (X := TtS VP) (fun q => [(6, .slice q.A q.l.length q.cap), (31, .int .i64 q.k)]) (fun q => [.row (.slice q.A q.l.length q.cap) 39 2 q.l.length (q.l.flatMap encP)]) (fun q => q.k + 1 ≤ (splitA 10 [] t).length ∧ q.l.length = q.k ∧ CutsOf t q.l) (fun q => (splitA 10 [] t).length - q.k) (⟨0, [], true, (some ⟨r4, 0, none⟩), 0⟩ : TtS VP) [(0, _), (29, _), (30, _)] [_] 2 [0, 1] ⟨rfl, rfl, trivial⟩ ⟨rfl, rfl, rfl, trivial⟩ (rfl) rfl ⟨hpp, rfl, fun i hi => by simp at hi⟩ (fun q hI => ?_)
      have hI : q.k + 1 ≤ (splitA 10 [] t).length ∧ q.l.length = q.k ∧ CutsOf t q.l := hI
      obtain ⟨hqk, hql, hqc⟩ := hI
      refine Ex.regSeq (ExL.pures 0 rfl ?_)
      refine ExL.lss rfl rfl rfl rfl rfl rfl (fun h5 => ?_) (fun h5 => ?_)
      · refine ExL.nil ?_
        refine Ex.seq ?_
        refine Ex.cond_t rfl ?_
        refine Ex.skip ?_
        refine Ex.seq ?_
        refine Ex.block ?_
        have hpl := piece_le 10 t q.k
        have hcl := cut_le ((splitA 10 [] t).getD q.k []) 32
        have hcl1 := hcl.1
        have hcl2 := hcl.2
        refine Ex.regSeq (ExL.pures 0 rfl ?_)
        refine ExL.free (fr_indexAddr (sz := 1) rfl rfl rfl rfl rfl rfl (by omega)) rfl rfl rfl ?_
        refine ExL.free (fr_load rfl rfl rfl rfl (by first | exact cellN (Reads.row (i := 1) rfl) eSt_len ([] : List UInt8) 0 rfl (by omega) rfl | exact cellF (Reads.row (i := 1) rfl) eSt_len ([] : List UInt8) 0 rfl (by omega) rfl)) rfl rfl rfl ?_
        refine ExL.pures 1 rfl ?_
        refine ExL.nil ?_
        refine Ex.regSeq (ExL.pures 1 rfl ?_)
        refine ExL.op rfl (op_ret rfl rfl rfl (c_Cut ((splitA 10 [] t).getD q.k []) 32 (by omega)) (fun w hw => RdO.keep hrd hw) rfl rfl (fun x6 hx6 => ?_))
        refine ExL.pures 7 rfl ?_
        refine ExL.nil ?_
        refine Ex.regSeq (ExL.pures 1 rfl ?_)
        refine ExL.op rfl (op_ret rfl rfl rfl (c_readDecimal (Lib.cut ((splitA 10 [] t).getD q.k []) [32]).1 (by omega)) (fun w hw => ⟨RdO.keep hrd hw, TabO.keep htab hw⟩) rfl rfl (fun x7 hx7 => ?_))
        have hbx7 : -9223372036854775808 ≤ x7.1 ∧ x7.1 ≤ 9223372036854775807 := hx7.1
        refine ExL.pures 5 rfl ?_
        refine ExL.nil ?_
        refine Ex.regSeq (ExL.pures 1 rfl ?_)
        refine ExL.op rfl (op_ret rfl rfl rfl (c_readDecimal (Lib.cut ((splitA 10 [] t).getD q.k []) [32]).2.1 (by omega)) (fun w hw => ⟨RdO.keep hrd hw, TabO.keep htab hw⟩) rfl rfl (fun x8 hx8 => ?_))
        have hbx8 : -9223372036854775808 ≤ x8.1 ∧ x8.1 ≤ 9223372036854775807 := hx8.1
        refine ExL.pures 5 rfl ?_
        refine ExL.nil ?_
        refine Ex.seq ?_
        refine Ex.regSeq (ExL.pures 3 rfl ?_)
        refine ExL.bool (d := 53) rfl (fun hb9 => ?_) (fun hb9 => ?_)
        · replace hb9 := nb_t hb9
          refine ExL.pures 3 rfl ?_
          refine ExL.nil ?_
          refine Ex.cond_t rfl ?_
          refine Ex.regSeq (ExL.pures 2 rfl ?_)
          refine ExL.nil ?_
          refine Ex.nilRow 39 2 ?_
          refine Ex.ret ?_
          refine RetQ.mk ⟨[], 5, none, 0⟩ rfl (.tmp rfl (.tmp rfl .nil)) (rfl) [0] (rfl) rfl (.inr ⟨rfl, rfl, by first | exact rd_open (n := (splitA 10 [] t).length - 1) (by omega) (by assumption) | exact rd_60 (by omega) | exact rd_line_no (by omega) hx7 hx8 (.inl (by assumption)) | exact rd_line_no (by omega) hx7 hx8 (.inr (by assumption)) | exact rd_no hqc (by omega) (fun h => by simp_all)⟩)
        · replace hb9 := nb_f hb9
          refine ExL.pures 3 rfl ?_
          refine ExL.nil ?_
          refine Ex.cond rfl (fun hb10 => ?_) (fun hb10 => ?_)
          · replace hb10 := nb_t hb10
            refine Ex.regSeq (ExL.pures 2 rfl ?_)
            refine ExL.nil ?_
            refine Ex.nilRow 39 2 ?_
            refine Ex.ret ?_
            refine RetQ.mk ⟨[], 5, none, 0⟩ rfl (.tmp rfl (.tmp rfl .nil)) (rfl) [0] (rfl) rfl (.inr ⟨rfl, rfl, by first | exact rd_open (n := (splitA 10 [] t).length - 1) (by omega) (by assumption) | exact rd_60 (by omega) | exact rd_line_no (by omega) hx7 hx8 (.inl (by assumption)) | exact rd_line_no (by omega) hx7 hx8 (.inr (by assumption)) | exact rd_no hqc (by omega) (fun h => by simp_all)⟩)
          · replace hb10 := nb_f hb10
            refine Ex.skip ?_
            refine Ex.region (ExL.pures 3 rfl ?_)
            refine ExL.free (fr_build rfl rfl rfl rfl) rfl rfl rfl ?_
            refine ExL.op rfl (op_buildSlice (sz := 2) rfl rfl rfl rfl rfl rfl rfl rfl (by decide) rfl rfl rfl (fun r11 => ?_))
            refine ExL.op rfl (op_append (sz := 2) (bytes := 16) (i := 1) rfl rfl rfl rfl (Reads.row (i := 0) rfl) rfl (fun e => nomatch e) rfl rfl rfl rfl (by constructor <;> first | omega | (unfold maxLen; omega)) rfl rfl (fun A12 cA12 => ?_))
            refine ExL.pures 1 rfl ?_
            refine ExL.nil ?_
            refine Ex.region (ExL.pures 0 rfl ?_)
            refine ExL.free (by first | exact fr_add64 rfl rfl rfl (by omega) | exact fr_add rfl rfl rfl) rfl rfl rfl ?_
            refine ExL.pures 1 rfl ?_
            refine ExL.nil ?_
            refine Hand.mk (⟨q.k + 1, q.l ++ [⟨x7.1, x8.1⟩], true, A12, cA12⟩ : TtS VP) 3 [1, 2] ⟨(by rw [List.length_append]; rfl), rfl, trivial⟩ ⟨rfl, rfl, rfl, trivial⟩ (by rw [List.length_append, List.flatMap_append]; rfl) rfl (⟨by dsimp only; omega, by rw [List.length_append, hql]; rfl, hqc.snoc ⟨hx7.1, hx8.1⟩ (by rw [hql]; exact hx7.2.1 (by assumption)) (by rw [hql]; exact hx8.2.1 (by assumption))⟩) (by dsimp only; omega)
      · refine ExL.nil ?_
        refine Ex.seq ?_
        refine Ex.cond_f rfl ?_
        refine Ex.exit ?_
        refine Ex.seq ?_
        refine Ex.regSeq (ExL.pures 1 rfl ?_)
        refine ExL.op rfl (op_ret rfl rfl rfl (c_ValidTotals q.l _ _ (by omega)) (Reads.get (Reads.row (i := 0) rfl)) rfl rfl (fun x14 hx14 => ?_))
        refine ExL.pures 2 rfl ?_
        refine ExL.bool (d := 67) rfl (fun hb15 => ?_) (fun hb15 => ?_)
        · replace hb15 := nb_t hb15
          refine ExL.pures 5 rfl ?_
          refine ExL.nil ?_
          refine Ex.cond_t rfl ?_
          refine Ex.regSeq (ExL.pures 2 rfl ?_)
          refine ExL.nil ?_
          refine Ex.nilRow 39 2 ?_
          refine Ex.ret ?_
          refine RetQ.mk ⟨[], 5, none, 0⟩ rfl (.tmp rfl (.tmp rfl .nil)) (rfl) [0] (rfl) rfl (.inr ⟨rfl, rfl, by first | exact rd_open (n := (splitA 10 [] t).length - 1) (by omega) (by assumption) | exact rd_60 (by omega) | exact rd_line_no (by omega) hx1 hx1 (.inl (by assumption)) | exact rd_line_no (by omega) hx1 hx1 (.inr (by assumption)) | exact rd_no hqc (by omega) (fun h => by simp_all)⟩)
        · replace hb15 := nb_f hb15
          refine ExL.pures 1 rfl ?_
          refine ExL.op rfl (op_ret rfl rfl rfl (c_iTotalsText q.l _ _ (by omega)) (fun w hw => ⟨Reads.get (Reads.row (i := 0) rfl) w hw, TabO.keep htab hw⟩) rfl rfl (fun x16 hx16 => ?_))
          refine ExL.pures 1 rfl ?_
          refine ExL.free (fr_neqS (l := (totTx q.l)) (r := t) rfl rfl rfl) rfl rfl rfl ?_
          refine ExL.pures 1 rfl ?_
          refine ExL.nil ?_
          refine Ex.cond rfl (fun hb17 => ?_) (fun hb17 => ?_)
          · replace hb17 := nd_t hb17
            refine Ex.regSeq (ExL.pures 2 rfl ?_)
            refine ExL.nil ?_
            refine Ex.nilRow 39 2 ?_
            refine Ex.ret ?_
            refine RetQ.mk ⟨[], 5, none, 0⟩ rfl (.tmp rfl (.tmp rfl .nil)) (rfl) [0] (rfl) rfl (.inr ⟨rfl, rfl, by first | exact rd_open (n := (splitA 10 [] t).length - 1) (by omega) (by assumption) | exact rd_60 (by omega) | exact rd_line_no (by omega) hx1 hx1 (.inl (by assumption)) | exact rd_line_no (by omega) hx1 hx1 (.inr (by assumption)) | exact rd_no hqc (by omega) (fun h => by simp_all)⟩)
          · replace hb17 := nd_f hb17
            refine Ex.skip ?_
            refine Ex.regSeq (ExL.pures 3 rfl ?_)
            refine ExL.nil ?_
            refine Ex.ret ?_
            refine RetQ.mk ⟨q.l, 0, q.A, q.cap⟩ rfl (.tmp rfl (.tmp rfl .nil)) (rfl) [0] (rfl) rfl (.inl ⟨rfl, rd_ok (by assumption) (by assumption)⟩)
end Go.Proofs.YtniimollalcjnaaGreatDoor

/- What these functions of the program hand back, each proved by walking its operations. -/
set_option linter.unusedVariables false
set_option linter.unusedSimpArgs false
set_option maxRecDepth 4000
namespace Go.Proofs.YtniimollalcjnaaGreatDoor
open Go Go.Sx Go.RowKit Go.W Go.Proofs
attribute [local irreducible] Ex ExL ExD Op1 Free RetQ MutQ Reads CellO SegO LoadsAs
end Go.Proofs.YtniimollalcjnaaGreatDoor

/- What these functions of the program hand back, each proved by walking its operations. -/
set_option linter.unusedVariables false
set_option linter.unusedSimpArgs false
set_option maxRecDepth 4000
namespace Go.Proofs.YtniimollalcjnaaGreatDoor
open Go Go.Sx Go.RowKit Go.W Go.Proofs
attribute [local irreducible] Ex ExL ExD Op1 Free RetQ MutQ Reads CellO SegO LoadsAs
end Go.Proofs.YtniimollalcjnaaGreatDoor

/- What these functions of the program hand back, each proved by walking its operations. -/
set_option linter.unusedVariables false
set_option linter.unusedSimpArgs false
set_option maxRecDepth 4000
namespace Go.Proofs.YtniimollalcjnaaGreatDoor
open Go Go.Sx Go.RowKit Go.W Go.Proofs
attribute [local irreducible] Ex ExL ExD Op1 Free RetQ MutQ Reads CellO SegO LoadsAs
end Go.Proofs.YtniimollalcjnaaGreatDoor

/- What these functions of the program hand back, each proved by walking its operations. -/
set_option linter.unusedVariables false
set_option linter.unusedSimpArgs false
set_option maxRecDepth 4000
namespace Go.Proofs.YtniimollalcjnaaGreatDoor
open Go Go.Sx Go.RowKit Go.W Go.Proofs
attribute [local irreducible] Ex ExL ExD Op1 Free RetQ MutQ Reads CellO SegO LoadsAs
end Go.Proofs.YtniimollalcjnaaGreatDoor

/- What these functions of the program hand back, each proved by walking its operations. -/
set_option linter.unusedVariables false
set_option linter.unusedSimpArgs false
set_option maxRecDepth 4000
namespace Go.Proofs.YtniimollalcjnaaGreatDoor
open Go Go.Sx Go.RowKit Go.W Go.Proofs
attribute [local irreducible] Ex ExL ExD Op1 Free RetQ MutQ Reads CellO SegO LoadsAs
end Go.Proofs.YtniimollalcjnaaGreatDoor

/- What these functions of the program hand back, each proved by walking its operations. -/
set_option linter.unusedVariables false
set_option linter.unusedSimpArgs false
set_option maxRecDepth 4000
namespace Go.Proofs.YtniimollalcjnaaGreatDoor
open Go Go.Sx Go.RowKit Go.W Go.Proofs
attribute [local irreducible] Ex ExL ExD Op1 Free RetQ MutQ Reads CellO SegO LoadsAs
end Go.Proofs.YtniimollalcjnaaGreatDoor

/- What these functions of the program hand back, each proved by walking its operations. -/
set_option linter.unusedVariables false
set_option linter.unusedSimpArgs false
set_option maxRecDepth 4000
namespace Go.Proofs.YtniimollalcjnaaGreatDoor
open Go Go.Sx Go.RowKit Go.W Go.Proofs
attribute [local irreducible] Ex ExL ExD Op1 Free RetQ MutQ Reads CellO SegO LoadsAs
end Go.Proofs.YtniimollalcjnaaGreatDoor

/- What these functions of the program hand back, each proved by walking its operations. -/
set_option linter.unusedVariables false
set_option linter.unusedSimpArgs false
set_option maxRecDepth 4000
namespace Go.Proofs.YtniimollalcjnaaGreatDoor
open Go Go.Sx Go.RowKit Go.W Go.Proofs
attribute [local irreducible] Ex ExL ExD Op1 Free RetQ MutQ Reads CellO SegO LoadsAs
theorem e_63 : Enters Tryz.prog 63 := Enters.of Tryz.func63 rfl
theorem c_isNaN (a : Int) : Ret Tryz.prog 63 [.int .i64 a] (fun w => True) (fun x : Unit => .bool false) (fun x => []) (fun x => True) := by
  refine Ret.of e_63 Tryz.func63 rfl Tryz.ntmps63 rfl rfl (fun w hpre => ?_)
  refine Ex.regSeq (ExL.pures 1 rfl ?_)
  refine ExL.nil ?_
  refine Ex.regSeq (ExL.pures 2 rfl ?_)
  refine ExL.free (fr_neq_f rfl rfl rfl (fun h => h rfl)) rfl rfl rfl ?_
  refine ExL.pures 1 rfl ?_
  refine ExL.nil ?_
  refine Ex.ret ?_
  refine RetQ.mk () rfl (.tmp rfl .nil) (rfl) [] (rfl) rfl (trivial)
theorem e_45 : Enters Tryz.prog 45 := Enters.of Tryz.func45 rfl
theorem c_cmp3 (a b : Int) : Ret Tryz.prog 45 [.int .i64 a, .int .i64 b] (fun w => True) (fun x : Unit => .int .i64 (c3 a b)) (fun x => []) (fun x => True) := by
  refine Ret.of e_45 Tryz.func45 rfl Tryz.ntmps45 rfl rfl (fun w hpre => ?_)
  refine Ex.regSeq (ExL.pures 1 rfl ?_)
  refine ExL.nil ?_
  refine Ex.regSeq (ExL.pures 1 rfl ?_)
  refine ExL.op rfl (op_ret rfl rfl rfl (c_isNaN _) (fun _ _ => trivial) rfl rfl (fun x1 hx1 => ?_))
  refine ExL.pures 1 rfl ?_
  refine ExL.nil ?_
  refine Ex.regSeq (ExL.pures 1 rfl ?_)
  refine ExL.op rfl (op_ret rfl rfl rfl (c_isNaN _) (fun _ _ => trivial) rfl rfl (fun x2 hx2 => ?_))
  refine ExL.pures 1 rfl ?_
  refine ExL.nil ?_
  refine Ex.seq ?_
  refine Ex.regSeq (ExL.pures 1 rfl ?_)
  refine ExL.nil ?_
  refine Ex.cond_f rfl ?_
  refine Ex.skip ?_
  refine Ex.seq ?_
  refine Ex.regSeq (ExL.pures 1 rfl ?_)
  refine ExL.nil ?_
  refine Ex.cond_f rfl ?_
  refine Ex.skip ?_
  refine Ex.seq ?_
  refine Ex.regSeq (ExL.pures 2 rfl ?_)
  refine ExL.lss rfl rfl rfl rfl rfl rfl (fun h3 => ?_) (fun h3 => ?_)
  · refine ExL.nil ?_
    refine Ex.cond_t rfl ?_
    refine Ex.regSeq (ExL.pures 1 rfl ?_)
    refine ExL.nil ?_
    refine Ex.ret ?_
    refine RetQ.mk () rfl (.tmp rfl .nil) (tI (by unfold c3; split <;> first | omega | (split <;> omega))) [] (rfl) rfl (trivial)
  · refine ExL.nil ?_
    refine Ex.cond_f rfl ?_
    refine Ex.skip ?_
    refine Ex.seq ?_
    refine Ex.regSeq (ExL.pures 2 rfl ?_)
    refine ExL.gtr rfl rfl rfl rfl rfl rfl (fun h4 => ?_) (fun h4 => ?_)
    · refine ExL.nil ?_
      refine Ex.cond_t rfl ?_
      refine Ex.regSeq (ExL.pures 1 rfl ?_)
      refine ExL.nil ?_
      refine Ex.ret ?_
      refine RetQ.mk () rfl (.tmp rfl .nil) (tI (by unfold c3; split <;> first | omega | (split <;> omega))) [] (rfl) rfl (trivial)
    · refine ExL.nil ?_
      refine Ex.cond_f rfl ?_
      refine Ex.skip ?_
      refine Ex.regSeq (ExL.pures 1 rfl ?_)
      refine ExL.nil ?_
      refine Ex.ret ?_
      refine RetQ.mk () rfl (.tmp rfl .nil) (tI (by unfold c3; split <;> first | omega | (split <;> omega))) [] (rfl) rfl (trivial)
end Go.Proofs.YtniimollalcjnaaGreatDoor

/- What these functions of the program hand back, each proved by walking its operations. -/
set_option linter.unusedVariables false
set_option linter.unusedSimpArgs false
set_option maxRecDepth 4000
namespace Go.Proofs.YtniimollalcjnaaGreatDoor
open Go Go.Sx Go.RowKit Go.W Go.Proofs
attribute [local irreducible] Ex ExL ExD Op1 Free RetQ MutQ Reads CellO SegO LoadsAs
theorem e_44 : Enters Tryz.prog 44 := Enters.of Tryz.func44 rfl
theorem c_mcmp (u v : VP) : Ret Tryz.prog 44 [.agg (encP u).toArray, .agg (encP v).toArray] (fun w => True) (fun x : Unit => .int .i64 (c3 u.a v.a)) (fun x => []) (fun x => True) := by
  refine Ret.of e_44 Tryz.func44 rfl Tryz.ntmps44 rfl rfl (fun w hpre => ?_)
  refine Ex.regSeq (ExL.pures 0 rfl ?_)
  refine ExL.op rfl (op_box rfl rfl rfl rfl rfl (fun b1 => ?_))
  refine ExL.op rfl (op_box rfl rfl rfl rfl rfl (fun b2 => ?_))
  refine ExL.pures 1 rfl ?_
  refine ExL.nil ?_
  refine Ex.regSeq (ExL.pures 1 rfl ?_)
  refine ExL.free (fr_load rfl rfl rfl rfl (CellO.blk (i := 1) rfl rfl)) rfl rfl rfl ?_
  refine ExL.pures 1 rfl ?_
  refine ExL.free (fr_load rfl rfl rfl rfl (CellO.blk (i := 0) rfl rfl)) rfl rfl rfl ?_
  refine ExL.op rfl (op_ret rfl rfl rfl (c_cmp3 u.a v.a) (fun _ _ => trivial) rfl rfl (fun x3 hx3 => ?_))
  refine ExL.pures 1 rfl ?_
  refine ExL.nil ?_
  refine Ex.ret ?_
  refine RetQ.mk () rfl (.tmp rfl .nil) (rfl) [] (rfl) rfl (trivial)
theorem e_77 : Enters Tryz.prog 77 := Enters.of Tryz.func77 rfl
theorem c_insertion (l : List VP) (A : Addr) (n c : Nat) (hn : l.length = n ∧ n ≤ 1000) (a b : Nat) (hab : a ≤ b ∧ b ≤ n) : Mut Tryz.prog 77 [.slice (some A) n c, .int .i64 (a : Int), .int .i64 (b : Int), .func (.func 44) #[] #[]] [.row (.slice (some A) n c) 39 2 n (l.flatMap encP)] (fun base w0 F => True) (fun x : List VP => .tuple #[]) (fun x => [.row (.slice (some A) n c) 39 2 n (x.flatMap encP)]) (fun x => Mv a b l x ∧ Up x a b) := by
  refine Mut.of e_77 Tryz.func77 rfl Tryz.ntmps77 rfl rfl (fun base w0 F hfr => ?_)
  obtain ⟨hn1, hn2⟩ := hn
  obtain ⟨hab1, hab2⟩ := hab
  have hm0 : maxLen = 9223372036854775807 := rfl
  refine Ex.regSeq (ExL.pures 1 rfl ?_)
  refine ExL.free (by first | exact fr_add64 rfl rfl rfl (by omega) | exact fr_add rfl rfl rfl) rfl rfl rfl ?_
  refine ExL.pures 1 rfl ?_
  refine ExL.nil ?_
  refine Ex.block ?_
  refine Ex.loopK (X := Nat × List VP) (fun q => [(8, .int .i64 (q.1 : Int))]) (fun q => [.row (.slice (some A) n c) 39 2 n (q.2.flatMap encP)]) (fun q => (a + 1 ≤ q.1 ∧ (q.1 ≤ b ∨ q.1 = a + 1)) ∧ Mv a b l q.2 ∧ Up q.2 a q.1) (fun q => b - q.1) (a + 1, l) [(0, _), (1, _), (2, _), (3, _)] (F) 1 [0] ⟨agI (by push_cast; omega), trivial⟩ ⟨rfl, rfl, rfl, rfl, trivial⟩ (rfl) rfl ⟨⟨by dsimp only; omega, by dsimp only; omega⟩, Mv.refl _ _ _, fun p q h1 h2 h3 => by dsimp only at h3; omega⟩ (fun q hI => ?_)
  have hI : (a + 1 ≤ q.1 ∧ (q.1 ≤ b ∨ q.1 = a + 1)) ∧ Mv a b l q.2 ∧ Up q.2 a q.1 := hI
  obtain ⟨⟨hi1, hi2⟩, hmv, hup⟩ := hI
  have hlen := hmv.same.len
  refine Ex.seq ?_
  refine Ex.regSeq (ExL.pures 2 rfl ?_)
  refine ExL.lss rfl rfl rfl rfl rfl rfl (fun h1 => ?_) (fun h1 => ?_)
  · refine ExL.nil ?_
    refine Ex.cond_t rfl ?_
    refine Ex.skip ?_
    refine Ex.seq ?_
    refine Ex.block ?_
    refine Ex.regSeq (ExL.pures 2 rfl ?_)
    refine ExL.nil ?_
    refine Ex.block ?_
    refine Ex.loopK (X := Nat × List VP) (fun r => [(9, .int .i64 (r.1 : Int))]) (fun r => [.row (.slice (some A) n c) 39 2 n (r.2.flatMap encP)]) (fun r => Put a b q.1 r.1 l r.2) (fun r => r.1) (q.1, q.2) [(0, _), (1, _), (2, _), (3, _), (8, _)] (F) 1 [0] ⟨rfl, trivial⟩ ⟨rfl, rfl, rfl, rfl, rfl, trivial⟩ (rfl) rfl (Put.start hmv (by omega) (by omega) hup) (fun r hI => ?_)
    have hI : Put a b q.1 r.1 l r.2 := hI
    have hlr := hI.mv.same.len
    have hja := hI.ja
    have hji := hI.ji
    have hib := hI.ib
    refine Ex.seq ?_
    have hc := c3n (r.2.getD r.1 zP).a (r.2.getD (r.1 - 1) zP).a
    refine Ex.drawSeqM rfl ?_
    refine ExD.take (i := 0) rfl (by kernel_rfl) (pureVal_ok rfl) ((List.Sublist.refl _)) rfl rfl rfl ?_
    refine ExD.take (i := 1) rfl (by kernel_rfl) (pureVal_ok rfl) ((List.Sublist.refl _)) rfl rfl rfl ?_
    refine ExD.cmp_gtr (i := 2) rfl (by kernel_rfl) rfl rfl rfl ((List.Sublist.refl _)) rfl rfl rfl (fun h2 => ?_) (fun h2 => ?_)
    · refine ExD.take (i := 3) rfl (by kernel_rfl) (pureVal_ok rfl) ((List.Sublist.refl _)) rfl rfl rfl ?_
      refine ExD.take (i := 4) rfl (by kernel_rfl) (pureVal_ok rfl) ((List.Sublist.refl _)) rfl rfl rfl ?_
      refine ExD.take (i := 5) rfl (by kernel_rfl) (pureVal_ok rfl) ((List.Sublist.refl _)) rfl rfl rfl ?_
      refine ExD.take (i := 6) rfl (by kernel_rfl) (pureVal_ok rfl) ((List.Sublist.refl _)) rfl rfl rfl ?_
      refine ExD.take (i := 7) rfl (by kernel_rfl) (fr_indexAddr (sz := 2) rfl rfl rfl rfl rfl rfl (by omega)) ((List.Sublist.refl _)) rfl rfl rfl ?_
      refine ExD.take (i := 8) rfl (by kernel_rfl) (fr_loadN rfl rfl rfl rfl rfl (segJ (r.1) (Reads.row (i := 0) rfl) encP_len rfl zP (by omega) (by omega))) ((List.Sublist.refl _)) rfl rfl rfl ?_
      refine ExD.take (i := 9) rfl (by kernel_rfl) (pureVal_ok rfl) ((List.Sublist.refl _)) rfl rfl rfl ?_
      refine ExD.take (i := 10) rfl (by kernel_rfl) (pureVal_ok rfl) ((List.Sublist.refl _)) rfl rfl rfl ?_
      refine ExD.take (i := 11) rfl (by kernel_rfl) (by first | exact fr_sub64 rfl rfl rfl (by omega) | exact fr_sub rfl rfl rfl) ((List.Sublist.refl _)) rfl rfl rfl ?_
      refine ExD.take (i := 12) rfl (by kernel_rfl) (fr_indexAddr (sz := 2) rfl rfl rfl rfl rfl rfl (by omega)) ((List.Sublist.refl _)) rfl rfl rfl ?_
      refine ExD.take (i := 13) rfl (by kernel_rfl) (fr_loadN rfl rfl rfl rfl rfl (segJ ((r.1 - 1)) (Reads.row (i := 0) rfl) encP_len rfl zP (by omega) (by omega))) ((List.Sublist.refl _)) rfl rfl rfl ?_
      refine ExD.op (i := 14) rfl (by kernel_rfl) rfl (op_ret rfl rfl rfl (c_mcmp (r.2.getD r.1 zP) (r.2.getD (r.1 - 1) zP)) (fun _ _ => trivial) rfl rfl (fun x3 hx3 => ⟨(List.Sublist.refl _), ?_⟩))
      refine ExD.cmp_lss (i := 15) rfl (by kernel_rfl) rfl rfl rfl ((List.Sublist.refl _)) rfl rfl rfl (fun h4 => ?_) (fun h4 => ?_)
      · refine ExD.take (i := 16) rfl (by kernel_rfl) (pureVal_ok rfl) ((List.Sublist.refl _)) rfl rfl rfl ?_
        refine ExD.done (by kernel_rfl) ?_
        refine Ex.cond_t rfl ?_
        refine Ex.skip ?_
        refine Ex.seq ?_
        refine Ex.block ?_
        refine Ex.drawI [] rfl rfl ?_
        refine ExD.take (i := 0) rfl (by kernel_rfl) (pureVal_ok rfl) ((List.nil_sublist _)) rfl rfl rfl ?_
        refine ExD.take (i := 1) rfl (by kernel_rfl) (pureVal_ok rfl) ((List.nil_sublist _)) rfl rfl rfl ?_
        refine ExD.take (i := 2) rfl (by kernel_rfl) (pureVal_ok rfl) ((List.nil_sublist _)) rfl rfl rfl ?_
        refine ExD.take (i := 3) rfl (by kernel_rfl) (pureVal_ok rfl) ((List.nil_sublist _)) rfl rfl rfl ?_
        refine ExD.take (i := 4) rfl (by kernel_rfl) (by first | exact fr_sub64 rfl rfl rfl (by omega) | exact fr_sub rfl rfl rfl) ((List.nil_sublist _)) rfl rfl rfl ?_
        refine ExD.take (i := 5) rfl (by kernel_rfl) (pureVal_ok rfl) ((List.nil_sublist _)) rfl rfl rfl ?_
        refine ExD.take (i := 6) rfl (by kernel_rfl) (pureVal_ok rfl) ((List.nil_sublist _)) rfl rfl rfl ?_
        refine ExD.take (i := 7) rfl (by kernel_rfl) (by first | exact fr_sub64 rfl rfl rfl (by omega) | exact fr_sub rfl rfl rfl) ((List.nil_sublist _)) rfl rfl rfl ?_
        refine ExD.take (i := 8) rfl (by kernel_rfl) (fr_indexAddr (sz := 2) rfl rfl rfl rfl rfl rfl (by omega)) ((List.nil_sublist _)) rfl rfl rfl ?_
        refine ExD.take (i := 10) rfl (by kernel_rfl) (pureVal_ok rfl) ((List.nil_sublist _)) rfl rfl rfl ?_
        refine ExD.take (i := 11) rfl (by kernel_rfl) (pureVal_ok rfl) ((List.nil_sublist _)) rfl rfl rfl ?_
        refine ExD.take (i := 12) rfl (by kernel_rfl) (fr_indexAddr (sz := 2) rfl rfl rfl rfl rfl rfl (by omega)) ((List.nil_sublist _)) rfl rfl rfl ?_
        refine ExD.two (i := 9) (j := 13) rfl rfl (by kernel_rfl) (by kernel_rfl) (by kernel_rfl) rfl (List.nil_sublist _) rfl rfl rfl rfl rfl rfl rfl rfl rfl (fr_loadN rfl rfl rfl rfl rfl (segJ ((r.1 - 1)) (Reads.row (i := 0) rfl) encP_len rfl zP (by omega) (by omega))) (fr_loadN rfl rfl rfl rfl rfl (segJ (r.1) (Reads.row (i := 0) rfl) encP_len rfl zP (by omega) (by omega))) (fr_loadN rfl rfl rfl rfl rfl (segJ ((r.1 - 1)) (Reads.row (i := 0) rfl) encP_len rfl zP (by omega) (by omega))) (fr_loadN rfl rfl rfl rfl rfl (segJ (r.1) (Reads.row (i := 0) rfl) encP_len rfl zP (by omega) (by omega))) ?_
        refine ExD.take (i := 14) rfl (by kernel_rfl) (fr_indexAddr (sz := 2) rfl rfl rfl rfl rfl rfl (by omega)) ((List.nil_sublist _)) rfl rfl rfl ?_
        refine ExD.op (i := 15) rfl (by kernel_rfl) rfl (op_storeRowF (i := 0) rfl rfl rfl rfl rfl rfl rfl rfl (room encP_len (k := r.1) (by omega) (by simp) rfl) (List.cons_ne_nil _ _) rfl (vp_put (i := r.1) (r.2.getD (r.1 - 1) zP) (by omega) (by simp) rfl) ⟨(List.nil_sublist _), ?_⟩)
        refine ExD.take (i := 16) rfl (by kernel_rfl) (fr_indexAddr (sz := 2) rfl rfl rfl rfl rfl rfl (by omega)) ((List.nil_sublist _)) rfl rfl rfl ?_
        refine ExD.last (i := 17) rfl (by kernel_rfl) (by kernel_rfl) rfl (op_storeRowF (i := 0) rfl rfl rfl rfl rfl rfl rfl rfl (room encP_len (k := (r.1 - 1)) (by rw [List.length_set]; omega) (by omega) rfl) (List.cons_ne_nil _ _) rfl (vp_put (i := (r.1 - 1)) (r.2.getD r.1 zP) (by rw [List.length_set]; omega) (by omega) rfl) ?_)
        refine ExD.done (by kernel_rfl) ?_
        refine Ex.region (ExL.pures 1 rfl ?_)
        refine ExL.free (by first | exact fr_sub64 rfl rfl rfl (by omega) | exact fr_sub rfl rfl rfl) rfl rfl rfl ?_
        refine ExL.pures 1 rfl ?_
        refine ExL.nil ?_
        refine Hand.mk ((r.1 - 1, sw r.2 (r.1 - 1))) 1 [0] ⟨agI (by dsimp only; omega), trivial⟩ ⟨rfl, rfl, rfl, rfl, rfl, trivial⟩ (by rw [← sw_eq (by omega)]; rfl) rfl ((hI.down (by omega) (by omega) (by omega))) ((by dsimp only; omega))
      · refine ExD.take (i := 16) rfl (by kernel_rfl) (pureVal_ok rfl) ((List.Sublist.refl _)) rfl rfl rfl ?_
        refine ExD.done (by kernel_rfl) ?_
        refine Ex.cond_f rfl ?_
        refine Ex.exit ?_
        have hPm := hI.mv
        have hpf := hI.fin (by omega)
        refine Ex.region (ExL.pures 1 rfl ?_)
        refine ExL.free (by first | exact fr_add64 rfl rfl rfl (by omega) | exact fr_add rfl rfl rfl) rfl rfl rfl ?_
        refine ExL.pures 1 rfl ?_
        refine ExL.nil ?_
        refine Hand.mk ((q.1 + 1, r.2)) 1 [0] ⟨agI (by push_cast; omega), trivial⟩ ⟨rfl, rfl, rfl, rfl, trivial⟩ (rfl) rfl (⟨⟨by dsimp only; omega, by dsimp only; omega⟩, hPm, hpf⟩) ((by dsimp only; omega))
    · refine ExD.take (i := 3) rfl (by kernel_rfl) (pureVal_ok rfl) ((List.Sublist.refl _)) rfl rfl rfl ?_
      refine ExD.pass (i := 4) rfl (by kernel_rfl) ((List.Sublist.refl _)) rfl rfl rfl ?_
      refine ExD.pass (i := 5) rfl (by kernel_rfl) ((List.Sublist.refl _)) rfl rfl rfl ?_
      refine ExD.pass (i := 6) rfl (by kernel_rfl) ((List.Sublist.refl _)) rfl rfl rfl ?_
      refine ExD.pass (i := 7) rfl (by kernel_rfl) ((List.Sublist.refl _)) rfl rfl rfl ?_
      refine ExD.pass (i := 8) rfl (by kernel_rfl) ((List.Sublist.refl _)) rfl rfl rfl ?_
      refine ExD.pass (i := 9) rfl (by kernel_rfl) ((List.Sublist.refl _)) rfl rfl rfl ?_
      refine ExD.pass (i := 10) rfl (by kernel_rfl) ((List.Sublist.refl _)) rfl rfl rfl ?_
      refine ExD.pass (i := 11) rfl (by kernel_rfl) ((List.Sublist.refl _)) rfl rfl rfl ?_
      refine ExD.pass (i := 12) rfl (by kernel_rfl) ((List.Sublist.refl _)) rfl rfl rfl ?_
      refine ExD.pass (i := 13) rfl (by kernel_rfl) ((List.Sublist.refl _)) rfl rfl rfl ?_
      refine ExD.pass (i := 14) rfl (by kernel_rfl) ((List.Sublist.refl _)) rfl rfl rfl ?_
      refine ExD.pass (i := 15) rfl (by kernel_rfl) ((List.Sublist.refl _)) rfl rfl rfl ?_
      refine ExD.take (i := 16) rfl (by kernel_rfl) (pureVal_ok rfl) ((List.Sublist.refl _)) rfl rfl rfl ?_
      refine ExD.done (by kernel_rfl) ?_
      refine Ex.cond_f rfl ?_
      refine Ex.exit ?_
      have hPm := hI.mv
      have hpf := hI.fin (by omega)
      refine Ex.region (ExL.pures 1 rfl ?_)
      refine ExL.free (by first | exact fr_add64 rfl rfl rfl (by omega) | exact fr_add rfl rfl rfl) rfl rfl rfl ?_
      refine ExL.pures 1 rfl ?_
      refine ExL.nil ?_
      refine Hand.mk ((q.1 + 1, r.2)) 1 [0] ⟨agI (by push_cast; omega), trivial⟩ ⟨rfl, rfl, rfl, rfl, trivial⟩ (rfl) rfl (⟨⟨by dsimp only; omega, by dsimp only; omega⟩, hPm, hpf⟩) ((by dsimp only; omega))
  · refine ExL.nil ?_
    refine Ex.cond_f rfl ?_
    refine Ex.exit ?_
    refine MutQ.mk q.2 rfl .nil (rfl) 1 [0] (rfl) rfl (⟨hmv, fun p q h1 h2 h3 => hup p q h1 h2 (by omega)⟩)
end Go.Proofs.YtniimollalcjnaaGreatDoor

/- What these functions of the program hand back, each proved by walking its operations. -/
set_option linter.unusedVariables false
set_option linter.unusedSimpArgs false
set_option maxRecDepth 4000
namespace Go.Proofs.YtniimollalcjnaaGreatDoor
open Go Go.Sx Go.RowKit Go.W Go.Proofs
attribute [local irreducible] Ex ExL ExD Op1 Free RetQ MutQ Reads CellO SegO LoadsAs
theorem e_116 : Enters Tryz.prog 116 := Enters.of Tryz.func116 rfl
theorem c_swapRange (l : List VP) (A : Addr) (n c : Nat) (hn : l.length = n ∧ n ≤ 1000) (a b k : Nat) (hab : a + k ≤ b ∧ b + k ≤ n) : Mut Tryz.prog 116 [.slice (some A) n c, .int .i64 (a : Int), .int .i64 (b : Int), .int .i64 (k : Int), .func (.func 44) #[] #[]] [.row (.slice (some A) n c) 39 2 n (l.flatMap encP)] (fun base w0 F => True) (fun x : Unit => .tuple #[]) (fun x => [.row (.slice (some A) n c) 39 2 n ((swR l a b k).flatMap encP)]) (fun x => True) := by
  refine Mut.of e_116 Tryz.func116 rfl Tryz.ntmps116 rfl rfl (fun base w0 F hfr => ?_)
  obtain ⟨hn1, hn2⟩ := hn
  obtain ⟨hab1, hab2⟩ := hab
  have hm0 : maxLen = 9223372036854775807 := rfl
  refine Ex.regSeq (ExL.pures 1 rfl ?_)
  refine ExL.nil ?_
  refine Ex.block ?_
  refine Ex.loopK (X := Nat) (fun i => [(10, .int .i64 (i : Int))]) (fun i => [.row (.slice (some A) n c) 39 2 n ((swR l a b i).flatMap encP)]) (fun i => i ≤ k) (fun i => k - i) 0 [(0, _), (1, _), (2, _), (3, _)] (F) 1 [0] ⟨rfl, trivial⟩ ⟨rfl, rfl, rfl, rfl, trivial⟩ (rfl) rfl (Nat.zero_le _) (fun i hI => ?_)
  have hI : i ≤ k := hI
  have hlr := swR_len l a b i
  refine Ex.seq ?_
  refine Ex.regSeq (ExL.pures 2 rfl ?_)
  refine ExL.lss rfl rfl rfl rfl rfl rfl (fun h1 => ?_) (fun h1 => ?_)
  · refine ExL.nil ?_
    refine Ex.cond_t rfl ?_
    refine Ex.skip ?_
    refine Ex.seq ?_
    refine Ex.block ?_
    refine Ex.drawI [] rfl rfl ?_
    refine ExD.take (i := 0) rfl (by kernel_rfl) (pureVal_ok rfl) ((List.nil_sublist _)) rfl rfl rfl ?_
    refine ExD.take (i := 1) rfl (by kernel_rfl) (pureVal_ok rfl) ((List.nil_sublist _)) rfl rfl rfl ?_
    refine ExD.take (i := 2) rfl (by kernel_rfl) (pureVal_ok rfl) ((List.nil_sublist _)) rfl rfl rfl ?_
    refine ExD.take (i := 3) rfl (by kernel_rfl) (by first | exact fr_add64 rfl rfl rfl (by omega) | exact fr_add rfl rfl rfl) ((List.nil_sublist _)) rfl rfl rfl ?_
    refine ExD.take (i := 4) rfl (by kernel_rfl) (pureVal_ok rfl) ((List.nil_sublist _)) rfl rfl rfl ?_
    refine ExD.take (i := 5) rfl (by kernel_rfl) (pureVal_ok rfl) ((List.nil_sublist _)) rfl rfl rfl ?_
    refine ExD.take (i := 6) rfl (by kernel_rfl) (pureVal_ok rfl) ((List.nil_sublist _)) rfl rfl rfl ?_
    refine ExD.take (i := 7) rfl (by kernel_rfl) (by first | exact fr_add64 rfl rfl rfl (by omega) | exact fr_add rfl rfl rfl) ((List.nil_sublist _)) rfl rfl rfl ?_
    refine ExD.take (i := 8) rfl (by kernel_rfl) (pureVal_ok rfl) ((List.nil_sublist _)) rfl rfl rfl ?_
    refine ExD.take (i := 9) rfl (by kernel_rfl) (pureVal_ok rfl) ((List.nil_sublist _)) rfl rfl rfl ?_
    refine ExD.take (i := 10) rfl (by kernel_rfl) (pureVal_ok rfl) ((List.nil_sublist _)) rfl rfl rfl ?_
    refine ExD.take (i := 11) rfl (by kernel_rfl) (by first | exact fr_add64 rfl rfl rfl (by omega) | exact fr_add rfl rfl rfl) ((List.nil_sublist _)) rfl rfl rfl ?_
    refine ExD.take (i := 12) rfl (by kernel_rfl) (fr_indexAddr (sz := 2) rfl rfl rfl rfl rfl rfl (by omega)) ((List.nil_sublist _)) rfl rfl rfl ?_
    refine ExD.take (i := 14) rfl (by kernel_rfl) (pureVal_ok rfl) ((List.nil_sublist _)) rfl rfl rfl ?_
    refine ExD.take (i := 15) rfl (by kernel_rfl) (pureVal_ok rfl) ((List.nil_sublist _)) rfl rfl rfl ?_
    refine ExD.take (i := 16) rfl (by kernel_rfl) (pureVal_ok rfl) ((List.nil_sublist _)) rfl rfl rfl ?_
    refine ExD.take (i := 17) rfl (by kernel_rfl) (by first | exact fr_add64 rfl rfl rfl (by omega) | exact fr_add rfl rfl rfl) ((List.nil_sublist _)) rfl rfl rfl ?_
    refine ExD.take (i := 18) rfl (by kernel_rfl) (fr_indexAddr (sz := 2) rfl rfl rfl rfl rfl rfl (by omega)) ((List.nil_sublist _)) rfl rfl rfl ?_
    refine ExD.two (i := 13) (j := 19) rfl rfl (by kernel_rfl) (by kernel_rfl) (by kernel_rfl) rfl (List.nil_sublist _) rfl rfl rfl rfl rfl rfl rfl rfl rfl (fr_loadN rfl rfl rfl rfl rfl (segJ ((b + i)) (Reads.row (i := 0) rfl) encP_len rfl zP (by omega) (by omega))) (fr_loadN rfl rfl rfl rfl rfl (segJ ((a + i)) (Reads.row (i := 0) rfl) encP_len rfl zP (by omega) (by omega))) (fr_loadN rfl rfl rfl rfl rfl (segJ ((b + i)) (Reads.row (i := 0) rfl) encP_len rfl zP (by omega) (by omega))) (fr_loadN rfl rfl rfl rfl rfl (segJ ((a + i)) (Reads.row (i := 0) rfl) encP_len rfl zP (by omega) (by omega))) ?_
    refine ExD.take (i := 20) rfl (by kernel_rfl) (fr_indexAddr (sz := 2) rfl rfl rfl rfl rfl rfl (by omega)) ((List.nil_sublist _)) rfl rfl rfl ?_
    refine ExD.op (i := 21) rfl (by kernel_rfl) rfl (op_storeRowF (i := 0) rfl rfl rfl rfl rfl rfl rfl rfl (room encP_len (k := a + i) (by omega) (by omega) rfl) (List.cons_ne_nil _ _) rfl (vp_put (i := a + i) ((swR l a b i).getD (b + i) zP) (by omega) (by omega) rfl) ⟨(List.nil_sublist _), ?_⟩)
    refine ExD.take (i := 22) rfl (by kernel_rfl) (fr_indexAddr (sz := 2) rfl rfl rfl rfl rfl rfl (by omega)) ((List.nil_sublist _)) rfl rfl rfl ?_
    refine ExD.last (i := 23) rfl (by kernel_rfl) (by kernel_rfl) rfl (op_storeRowF (i := 0) rfl rfl rfl rfl rfl rfl rfl rfl (room encP_len (k := b + i) (by rw [List.length_set]; omega) (by omega) rfl) (List.cons_ne_nil _ _) rfl (vp_put (i := b + i) ((swR l a b i).getD (a + i) zP) (by rw [List.length_set]; omega) (by omega) rfl) ?_)
    refine ExD.done (by kernel_rfl) ?_
    refine Ex.region (ExL.pures 1 rfl ?_)
    refine ExL.free (by first | exact fr_add64 rfl rfl rfl (by omega) | exact fr_add rfl rfl rfl) rfl rfl rfl ?_
    refine ExL.pures 1 rfl ?_
    refine ExL.nil ?_
    refine Hand.mk (i + 1) 1 [0] ⟨agI (by push_cast; omega), trivial⟩ ⟨rfl, rfl, rfl, rfl, trivial⟩ (rfl) rfl (by omega) (by omega)
  · refine ExL.nil ?_
    refine Ex.cond_f rfl ?_
    refine Ex.exit ?_
    obtain rfl : k = i := (by omega)
    refine MutQ.mk () rfl .nil (rfl) 1 [0] (rfl) rfl (trivial)
end Go.Proofs.YtniimollalcjnaaGreatDoor

/- What these functions of the program hand back, each proved by walking its operations. -/
set_option linter.unusedVariables false
set_option linter.unusedSimpArgs false
set_option maxRecDepth 4000
namespace Go.Proofs.YtniimollalcjnaaGreatDoor
open Go Go.Sx Go.RowKit Go.W Go.Proofs
attribute [local irreducible] Ex ExL ExD Op1 Free RetQ MutQ Reads CellO SegO LoadsAs
theorem c_swapRangeE (l : List VP) (A : Addr) (n c : Nat) (hn : l.length = n ∧ n ≤ 1000) (a b k : Nat) (hab : a + k ≤ b ∧ b + k ≤ n) (a_ b_ k_ : Int) (ha : a_ = a) (hb : b_ = b) (hk : k_ = k) : Mut Tryz.prog 116 [.slice (some A) n c, .int .i64 a_, .int .i64 b_, .int .i64 k_, .func (.func 44) #[] #[]] [.row (.slice (some A) n c) 39 2 n (l.flatMap encP)] (fun base w0 F => True) (fun x : Unit => .tuple #[]) (fun x => [.row (.slice (some A) n c) 39 2 n ((swR l a b k).flatMap encP)]) (fun x => True) := by
  subst ha hb hk; exact c_swapRange l A n c hn a b k hab
theorem e_99 : Enters Tryz.prog 99 := Enters.of Tryz.func99 rfl
theorem c_rotate (l : List VP) (A : Addr) (n c : Nat) (hn : l.length = n ∧ n ≤ 1000) (a m b : Nat) (hab : a < m ∧ m < b ∧ b ≤ n) : Mut Tryz.prog 99 [.slice (some A) n c, .int .i64 (a : Int), .int .i64 (m : Int), .int .i64 (b : Int), .func (.func 44) #[] #[]] [.row (.slice (some A) n c) 39 2 n (l.flatMap encP)] (fun base w0 F => True) (fun x : List VP => .tuple #[]) (fun x => [.row (.slice (some A) n c) 39 2 n (x.flatMap encP)]) (fun x => Rot a m b l x) := by
  refine Mut.of e_99 Tryz.func99 rfl Tryz.ntmps99 rfl rfl (fun base w0 F hfr => ?_)
  obtain ⟨hn1, hn2⟩ := hn
  obtain ⟨hab1, hab2, hab3⟩ := hab
  have hm0 : maxLen = 9223372036854775807 := rfl
  refine Ex.regSeq (ExL.pures 2 rfl ?_)
  refine ExL.free (by first | exact fr_sub64 rfl rfl rfl (by omega) | exact fr_sub rfl rfl rfl) rfl rfl rfl ?_
  refine ExL.pures 1 rfl ?_
  refine ExL.nil ?_
  refine Ex.regSeq (ExL.pures 2 rfl ?_)
  refine ExL.free (by first | exact fr_sub64 rfl rfl rfl (by omega) | exact fr_sub rfl rfl rfl) rfl rfl rfl ?_
  refine ExL.pures 1 rfl ?_
  refine ExL.nil ?_
  refine Ex.seq ?_
  refine Ex.block ?_
  refine Ex.loopK (X := Nat × Nat × List VP) (fun q => [(10, .int .i64 (q.1 : Int)), (11, .int .i64 (q.2.1 : Int))]) (fun q => [.row (.slice (some A) n c) 39 2 n (q.2.2.flatMap encP)]) (fun q => RI a m b l q.1 q.2.1 q.2.2) (fun q => q.1 + q.2.1) (m - a, b - m, l) [(0, _), (2, _), (4, _)] (F) 1 [0] ⟨agI (by first | omega | rfl | (dsimp only; omega)), agI (by first | omega | rfl | (dsimp only; omega)), trivial⟩ ⟨rfl, rfl, rfl, trivial⟩ (rfl) rfl (RI.start hab1 hab2) (fun q hI => ?_)
  have hI : RI a m b l q.1 q.2.1 q.2.2 := hI
  have h_im := hI.im
  have h_jb := hI.jb
  have h_i0 := hI.i0
  have h_j0 := hI.j0
  have h_len := hI.len
  refine Ex.seq ?_
  refine Ex.regSeq (ExL.pures 2 rfl ?_)
  refine ExL.neq rfl rfl rfl rfl rfl rfl (fun h1 => ?_) (fun h1 => ?_)
  · refine ExL.nil ?_
    refine Ex.cond_t rfl ?_
    refine Ex.skip ?_
    refine Ex.block ?_
    refine Ex.regSeq (ExL.pures 2 rfl ?_)
    refine ExL.gtr rfl rfl rfl rfl rfl rfl (fun h2 => ?_) (fun h2 => ?_)
    · refine ExL.nil ?_
      refine Ex.cond_t rfl ?_
      refine Ex.regSeq (ExL.pures 3 rfl ?_)
      refine ExL.free (by first | exact fr_sub64 rfl rfl rfl (by omega) | exact fr_sub rfl rfl rfl) rfl rfl rfl ?_
      refine ExL.pures 3 rfl ?_
      refine ExL.op rfl (op_mut rfl rfl rfl (c_swapRangeE q.2.2 A n c (by constructor <;> omega) (m - q.1) m q.2.1 (by constructor <;> omega) _ _ _ (by omega) (by omega) (by omega)) (perm_at (i := 0) rfl) (trivial) rfl rfl (fun x3 hx3 => ?_))
      refine ExL.nil ?_
      refine Ex.region (ExL.pures 2 rfl ?_)
      refine ExL.free (by first | exact fr_sub64 rfl rfl rfl (by omega) | exact fr_sub rfl rfl rfl) rfl rfl rfl ?_
      refine ExL.pures 1 rfl ?_
      refine ExL.nil ?_
      refine Hand.mk ((q.1 - q.2.1, q.2.1, swR q.2.2 (m - q.1) m q.2.1)) 1 [0] ⟨agI (by first | omega | rfl | (dsimp only; omega)), agI (by first | omega | rfl | (dsimp only; omega)), trivial⟩ ⟨rfl, rfl, rfl, trivial⟩ (rfl) rfl ((hI.left (by omega) (by omega))) ((by first | omega | rfl | (dsimp only; omega)))
    · refine ExL.nil ?_
      refine Ex.cond_f rfl ?_
      refine Ex.regSeq (ExL.pures 3 rfl ?_)
      refine ExL.free (by first | exact fr_sub64 rfl rfl rfl (by omega) | exact fr_sub rfl rfl rfl) rfl rfl rfl ?_
      refine ExL.pures 2 rfl ?_
      refine ExL.free (by first | exact fr_add64 rfl rfl rfl (by omega) | exact fr_add rfl rfl rfl) rfl rfl rfl ?_
      refine ExL.pures 1 rfl ?_
      refine ExL.free (by first | exact fr_sub64 rfl rfl rfl (by omega) | exact fr_sub rfl rfl rfl) rfl rfl rfl ?_
      refine ExL.pures 2 rfl ?_
      refine ExL.op rfl (op_mut rfl rfl rfl (c_swapRangeE q.2.2 A n c (by constructor <;> omega) (m - q.1) ((m + q.2.1) - q.1) q.1 (by constructor <;> omega) _ _ _ (by omega) (by omega) (by omega)) (perm_at (i := 0) rfl) (trivial) rfl rfl (fun x4 hx4 => ?_))
      refine ExL.nil ?_
      refine Ex.region (ExL.pures 2 rfl ?_)
      refine ExL.free (by first | exact fr_sub64 rfl rfl rfl (by omega) | exact fr_sub rfl rfl rfl) rfl rfl rfl ?_
      refine ExL.pures 1 rfl ?_
      refine ExL.nil ?_
      refine Hand.mk ((q.1, q.2.1 - q.1, swR q.2.2 (m - q.1) (m + q.2.1 - q.1) q.1)) 1 [0] ⟨agI (by first | omega | rfl | (dsimp only; omega)), agI (by first | omega | rfl | (dsimp only; omega)), trivial⟩ ⟨rfl, rfl, rfl, trivial⟩ (rfl) rfl ((hI.right (by omega) (by omega))) ((by first | omega | rfl | (dsimp only; omega)))
  · refine ExL.nil ?_
    refine Ex.cond_f rfl ?_
    refine Ex.exit ?_
    refine Ex.region (ExL.pures 3 rfl ?_)
    refine ExL.free (by first | exact fr_sub64 rfl rfl rfl (by omega) | exact fr_sub rfl rfl rfl) rfl rfl rfl ?_
    refine ExL.pures 3 rfl ?_
    refine ExL.op rfl (op_mut rfl rfl rfl (c_swapRangeE q.2.2 A n c (by constructor <;> omega) (m - q.1) m q.1 (by constructor <;> omega) _ _ _ (by omega) (by omega) (by omega)) (perm_at (i := 0) rfl) (trivial) rfl rfl (fun x5 hx5 => ?_))
    refine ExL.nil ?_
    refine MutQ.mk (swR q.2.2 (m - q.1) m q.1) rfl .nil (rfl) 1 [0] (rfl) rfl (hI.fin (by omega) (by omega))
end Go.Proofs.YtniimollalcjnaaGreatDoor
