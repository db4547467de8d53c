/- Several texts, one behind the other. -/
import Derived.Test.YtddflaaccmjoeaaGreatDoorProg
import Derived.Shelf.Strings.Builder1
import Derived.Shelf.Strings.Builder2
import Derived.Shelf.Strings.OnBuilder
import Derived.Shelf.Strings.BuilderF
import Derived.Shelf.Utf8.RuneCount
import Derived.Shelf.Strconv.Itoa0
import Derived.Shelf.Strconv.Itoa1
import Derived.Shelf.LaysM
import Derived.Shelf.Strconv.Itoa2
import Derived.Shelf.Strconv.Itoa3
import Derived.Shelf.Strconv.Itoa4
import Derived.Shelf.Strconv.ParseIntEmpty
import Derived.Shelf.Strconv.Clone
import Derived.Shelf.Strconv.SyntaxError
import Derived.Shelf.LaysC
import Derived.Shelf.Strconv.ToError
import Derived.Shelf.Strconv.Lower
import Derived.Shelf.Strconv.ParseUint10
import Derived.Shelf.Strconv.ParseUint10Empty
import Derived.Shelf.Strconv.ParseUint10Any
import Derived.Shelf.Strconv.ParseInt10
import Derived.Shelf.Strconv.RangeError
import Derived.Shelf.Strconv.ToErrorRange
import Derived.Shelf.Strconv.ParseUintEmpty
import Derived.Shelf.Strconv.ParseUint10b64
import Derived.Shelf.Strconv.ParseUint10b32
import Derived.Shelf.Strconv.ParseUint10b16
import Derived.Shelf.Strconv.ParseUint10b8
import Derived.Shelf.Strconv.ParseUint10At
import Derived.Shelf.Strconv.ParseInt10At64
import Derived.Shelf.Strconv.ParseInt10At32
import Derived.Shelf.Strconv.ParseInt10At16
import Derived.Shelf.Strconv.ParseInt10At8
import Derived.Shelf.Strconv.ParseInt10All
import Derived.Shelf.Strconv.ParseIntPublic10
import Derived.Ground.MpProg
import Derived.Shelf.Pu.ParseUintPublic10
import Derived.Shelf.Strings.Search1
import Derived.Shelf.Strings.Search2
import Derived.Shelf.Strings.Search3
import Derived.Shelf.Strings.Cut
import Derived.Shelf.Strings.Count
import Derived.Shelf.Strings.Shaped
import Derived.Shelf.Strings.Prefix
import Derived.Shelf.Strings.Split
import Derived.Shelf.Strings.SplitShaped
import Derived.Shelf.Unicode.Decode
import Derived.Shelf.Strings.RuneCount
import Derived.Shelf.Strings.Explode
import Derived.Shelf.Bits.Mul64
import Derived.Shelf.Strings.Repeat
import Derived.Shelf.Unicode.DecodeSlow
import Derived.Shelf.Unicode.DecodeAny
import Derived.Test.YtddflaaccmjoeaaGreatDoorXaa
import Derived.Test.YtddflaaccmjoeaaGreatDoorXab
import Derived.Test.YtddflaaccmjoeaaGreatDoorXba
import Derived.Test.YtddflaaccmjoeaaGreatDoorXbb
/- What these functions of the program hand back, each proved by walking its operations. -/
set_option linter.unusedVariables false
set_option linter.unusedSimpArgs false
set_option maxRecDepth 4000
namespace Go.Proofs.YtddflaaccmjoeaaGreatDoor
open Go Go.Sx Go.RowKit Go.W Go.Proofs
attribute [local irreducible] Ex ExL ExD Op1 Free RetQ MutQ Reads CellO SegO LoadsAs
theorem e_51 : Enters Tryz.prog 51 := Enters.of Tryz.func51 rfl
set_option maxHeartbeats 1000000 in
theorem c_l04StoryD (code : List Int) (Ac : Option Addr) (cc : Nat) (hcl : code.length ≤ maxLen) (hcu : Nums 255 code) (b : Nat) (at_ sd : Int) (hat : 0 ≤ at_ ∧ at_ ≤ 500000) (s : List Int) (hu : Nums 255 s) (As : Option Addr) (cs : Nat) (hls : s.length ≤ maxLen) (l : List VP) (Al : Option Addr) (cl : Nat) (hll : l.length ≤ maxLen) (f : VP) (hask : askS s l f = true) : Mut Tryz.prog 51 [.pointer (some ⟨b, 0, none⟩), .slice As s.length cs, .slice Al l.length cl, .agg (encP f).toArray] [.blk b [.slice Ac code.length cc, .int .i64 at_, .int .u64 sd] 113] (fun base w0 F => RdB base w0 Ac (code.flatMap (eI .u8)) ∧ RdB base w0 As (s.flatMap (eI .u8)) ∧ RdB base w0 Al (l.flatMap encP)) (fun x : (Int × Int) × Bool × ((Option Addr × Nat) × List Int) × ((Option Addr × Nat) × List Int) × Int => .agg (encY (cutJ x.2.1 x.2.2.1.1.1 x.2.2.1.1.2) (x.2.2.1.1.2 - backB x.2.1) x.2.2.2.1.1.1 x.2.2.2.1.1.2 (⟨dropB x.2.1 x.2.2.1.2, x.2.2.2.1.2, x.2.2.2.2⟩ : VSt)).toArray) (fun x => [.blk b [.slice Ac code.length cc, .int .i64 x.1.1, .int .u64 x.1.2] 113, .row (.slice x.2.2.1.1.1 x.2.2.1.2.length x.2.2.1.1.2) 2 1 x.2.2.1.2.length (x.2.2.1.2.flatMap (eI .i64)), .row (.slice x.2.2.2.1.1.1 x.2.2.2.1.2.length x.2.2.2.1.1.2) 2 1 x.2.2.2.1.2.length (x.2.2.2.1.2.flatMap (eI .i64))]) (fun x => x.2.2.1.2.length ≤ 50 ∧ x.2.2.2.1.2.length ≤ 50) := by
  refine Mut.of e_51 Tryz.func51 rfl Tryz.ntmps51 rfl rfl (fun base w0 F hfr => ?_)
  have hek : (stV (fitsF s l f) l.length).kept.length = (stK (fitsF s l f) l.length).length := rfl
  have heb : (stV (fitsF s l f) l.length).breaks.length = (stB (fitsF s l f) l.length).length := rfl
  have hec : (stV (fitsF s l f) l.length).cost = (bstV (fitsF s l f) l.length l.length).cost := rfl
  have hcode := hfr.1
  have hs := hfr.2.1
  have hl := hfr.2.2
  have hm0 : maxLen = 9223372036854775807 := rfl
  obtain ⟨hL, hf⟩ := ask_of hask
  have hLl := hL.len
  have hac : askC s l f = 0 := by unfold askC; rw [if_pos hask]
  have hkln := stK_len (fitsF s l f) l.length
  have hbln := stB_len (fitsF s l f) l.length
  have hcbd := bst_bd (fit := fitsF s l f) (n := l.length) l.length (Nat.le_refl _)
  refine Ex.regSeq (ExL.pures 0 rfl ?_)
  refine ExL.op rfl (op_box rfl rfl rfl rfl rfl (fun b1 => ?_))
  refine ExL.op rfl (op_alloc rfl rfl rfl rfl rfl (fun b2 => ?_))
  refine ExL.nil ?_
  refine Ex.seq ?_
  refine Ex.regSeq (ExL.pures 2 rfl ?_)
  refine ExL.free (fr_loadN rfl rfl rfl rfl rfl (SegO.whole (i := 1) rfl)) rfl rfl rfl ?_
  refine ExL.op rfl (op_ret rfl rfl rfl (c_l04Asked s (by assumption) _ _ (by omega) l _ _ (by omega) f) (fun w hw => ⟨Reads.get (Reads.old hs) w hw, Reads.get (Reads.old hl) w hw⟩) rfl rfl (fun x3 hx3 => ?_))
  refine ExL.free (fr_neq_f rfl rfl rfl (by rw [hac]; exact fun h => h rfl)) rfl rfl rfl ?_
  refine ExL.nil ?_
  refine Ex.cond_f rfl ?_
  refine Ex.skip ?_
  refine Ex.regSeq (ExL.pures 2 rfl ?_)
  refine ExL.free (fr_loadN rfl rfl rfl rfl rfl (SegO.whole (i := 1) rfl)) rfl rfl rfl ?_
  refine ExL.op rfl (op_ret rfl rfl rfl (c_l04Best s (by assumption) _ _ (by omega) l _ _ (by omega) (by assumption) f (by assumption)) (fun w hw => ⟨Reads.get (Reads.old hs) w hw, Reads.get (Reads.old hl) w hw⟩) rfl rfl (fun x4 hx4 => ?_))
  refine ExL.op rfl (op_alloc rfl rfl rfl rfl rfl (fun b5 => ?_))
  refine ExL.op rfl (op_storeC (i := 0) rfl rfl rfl rfl rfl rfl rfl rfl rfl rfl ?_)
  refine ExL.nil ?_
  refine Ex.seq ?_
  refine Ex.regSeq (ExL.pures 1 rfl ?_)
  refine ExL.op rfl (op_mut rfl rfl rfl (c_pick code _ _ (by omega) (by assumption) _ at_ _ (by omega) 8 (by omega)) (perm_at (i := 5) rfl) (hcode) rfl rfl (fun x6 hx6 => ?_))
  refine ExL.nil ?_
  refine Ex.block ?_
  refine Ex.regSeq (ExL.pures 0 rfl ?_)
  refine ExL.eql rfl rfl rfl rfl rfl rfl (fun h7 => ?_) (fun h7 => ?_)
  · refine ExL.pures 1 rfl ?_
    refine ExL.nil ?_
    refine Ex.cond_t rfl ?_
    refine Ex.region (ExL.pures 1 rfl ?_)
    refine ExL.free (fr_load rfl rfl rfl rfl (CellO.blk (i := 1) rfl rfl)) rfl rfl rfl ?_
    refine ExL.free (by first | exact fr_add64 rfl rfl rfl (by omega) | exact fr_add rfl rfl rfl) rfl rfl rfl ?_
    refine ExL.pures 1 rfl ?_
    refine ExL.op rfl (op_storeC (i := 1) rfl rfl rfl rfl rfl rfl rfl rfl rfl rfl ?_)
    refine ExL.nil ?_
    refine Ex.regSeq (ExL.pures 0 rfl ?_)
    refine ExL.free (fr_loadN rfl rfl rfl rfl rfl (SegO.whole (i := 1) rfl)) rfl rfl rfl ?_
    refine ExL.op rfl (op_storeC (i := 4) rfl rfl rfl rfl rfl rfl rfl rfl rfl rfl ?_)
    refine ExL.nil ?_
    refine Ex.ret ?_
    refine MutQ.mk ((x6.2.1, x6.2.2), false, ((x4.1.1, x4.1.2), (stK (fitsF s l f) l.length)), ((x4.2.1, x4.2.2), (stB (fitsF s l f) l.length)), ((bstV (fitsF s l f) l.length l.length).cost + 1)) rfl (.cell rfl (.many rfl rfl rfl (SegO.whole (i := 4) rfl)) .nil) (encY_of false (by first | rfl | (show _ = (List.drop 1 _).length; rw [List.length_drop]; rfl) | exact len_app rfl) (by first | rfl | (rw [List.length_append]; rfl)) rfl rfl rfl) 6 [0, 2, 3] (by first | rfl | (simp only [List.flatMap_append, List.length_append]; rfl)) rfl (by constructor <;> first | (dsimp only; omega) | (dsimp only; simp only [List.length_append, List.length_cons, List.length_nil]; omega))
  · refine ExL.pures 1 rfl ?_
    refine ExL.nil ?_
    refine Ex.cond_f rfl ?_
    refine Ex.regSeq (ExL.pures 0 rfl ?_)
    refine ExL.eql rfl rfl rfl rfl rfl rfl (fun h8 => ?_) (fun h8 => ?_)
    · refine ExL.pures 1 rfl ?_
      refine ExL.nil ?_
      refine Ex.cond_t rfl ?_
      refine Ex.drawI [1, 3, 4, 5] rfl rfl ?_
      refine ExD.take (i := 0) rfl (by kernel_rfl) (pureVal_ok rfl) ((List.Sublist.cons _ (List.Sublist.cons_cons _ (List.Sublist.cons _ (List.Sublist.cons_cons _ (List.Sublist.cons_cons _ (List.Sublist.cons_cons _ (List.nil_sublist _)))))))) rfl rfl rfl ?_
      refine ExD.take (i := 1) rfl (by kernel_rfl) (fr_load rfl rfl rfl rfl (CellO.blk (i := 0) rfl rfl)) ((List.Sublist.cons _ (List.Sublist.cons_cons _ (List.Sublist.cons _ (List.Sublist.cons_cons _ (List.Sublist.cons_cons _ (List.Sublist.cons_cons _ (List.nil_sublist _)))))))) rfl rfl rfl ?_
      refine ExD.take (i := 2) rfl (by kernel_rfl) (pureVal_ok rfl) ((List.Sublist.cons _ (List.Sublist.cons_cons _ (List.Sublist.cons _ (List.Sublist.cons_cons _ (List.Sublist.cons_cons _ (List.Sublist.cons_cons _ (List.nil_sublist _)))))))) rfl rfl rfl ?_
      refine ExD.op (i := 3) rfl (by kernel_rfl) rfl (op_mut rfl rfl rfl (c_pick code _ _ (by omega) (by assumption) _ x6.2.1 _ (by omega) 9 (by omega)) (perm_at (i := 0) rfl) (hcode) rfl rfl (fun x9 hx9 => ⟨(List.Sublist.cons _ (List.Sublist.cons_cons _ (List.Sublist.cons _ (List.Sublist.cons_cons _ (List.Sublist.cons_cons _ (List.Sublist.cons_cons _ (List.nil_sublist _))))))), ?_⟩))
      refine ExD.take (i := 4) rfl (by kernel_rfl) (by first | exact fr_sub64 rfl rfl rfl (by omega) | exact fr_sub rfl rfl rfl) ((List.Sublist.cons _ (List.Sublist.cons_cons _ (List.Sublist.cons _ (List.Sublist.cons_cons _ (List.Sublist.cons_cons _ (List.Sublist.cons_cons _ (List.nil_sublist _)))))))) rfl rfl rfl ?_
      refine ExD.op (i := 5) rfl (by kernel_rfl) rfl (op_buildSlice (sz := 1) rfl rfl rfl rfl rfl rfl rfl rfl (by decide) rfl rfl rfl (fun r10 => ⟨(List.Sublist.cons _ (List.Sublist.cons _ (List.Sublist.cons_cons _ (List.Sublist.cons _ (List.Sublist.cons_cons _ (List.Sublist.cons_cons _ (List.Sublist.cons_cons _ (List.nil_sublist _)))))))), ?_⟩))
      refine ExD.op (i := 6) rfl (by kernel_rfl) rfl (op_append (sz := 1) (bytes := 8) (i := 3) rfl rfl rfl rfl (Reads.row (i := 0) rfl) rfl (fun e => nomatch e) rfl rfl rfl rfl (by constructor <;> first | omega | (unfold maxLen; omega)) rfl rfl (fun A11 cA11 => ⟨(List.Sublist.cons _ (List.Sublist.cons _ (List.Sublist.cons_cons _ (List.Sublist.cons _ (List.Sublist.cons_cons _ (List.Sublist.cons_cons _ (List.Sublist.cons_cons _ (List.nil_sublist _)))))))), ?_⟩))
      refine ExD.take (i := 7) rfl (by kernel_rfl) (pureVal_ok rfl) ((List.Sublist.cons _ (List.Sublist.cons _ (List.Sublist.cons_cons _ (List.Sublist.cons _ (List.Sublist.cons_cons _ (List.Sublist.cons_cons _ (List.Sublist.cons_cons _ (List.nil_sublist _))))))))) rfl rfl rfl ?_
      refine ExD.last (i := 8) rfl (by kernel_rfl) (by kernel_rfl) rfl (op_storeC (i := 2) rfl rfl rfl rfl rfl rfl rfl rfl rfl rfl ?_)
      refine ExD.done (by kernel_rfl) ?_
      refine Ex.regSeq (ExL.pures 0 rfl ?_)
      refine ExL.free (fr_loadN rfl rfl rfl rfl rfl (SegO.whole (i := 2) rfl)) rfl rfl rfl ?_
      refine ExL.op rfl (op_storeC (i := 5) rfl rfl rfl rfl rfl rfl rfl rfl rfl rfl ?_)
      refine ExL.nil ?_
      refine Ex.ret ?_
      refine MutQ.mk ((x9.2.1, x9.2.2), false, ((A11, cA11), ((stK (fitsF s l f) l.length) ++ [(x9.1 - 1)])), ((x4.2.1, x4.2.2), (stB (fitsF s l f) l.length)), (bstV (fitsF s l f) l.length l.length).cost) rfl (.cell rfl (.many rfl rfl rfl (SegO.whole (i := 5) rfl)) .nil) (encY_of false (by first | rfl | (show _ = (List.drop 1 _).length; rw [List.length_drop]; rfl) | exact len_app rfl) (by first | rfl | (rw [List.length_append]; rfl)) rfl rfl rfl) 7 [1, 3, 4] (by first | rfl | (simp only [List.flatMap_append, List.length_append]; rfl)) rfl (by constructor <;> first | (dsimp only; omega) | (dsimp only; simp only [List.length_append, List.length_cons, List.length_nil]; omega))
    · refine ExL.pures 1 rfl ?_
      refine ExL.nil ?_
      refine Ex.cond_f rfl ?_
      refine Ex.regSeq (ExL.pures 0 rfl ?_)
      refine ExL.eql rfl rfl rfl rfl rfl rfl (fun h13 => ?_) (fun h13 => ?_)
      · refine ExL.pures 1 rfl ?_
        refine ExL.nil ?_
        refine Ex.cond_t rfl ?_
        refine Ex.regSeq (ExL.pures 1 rfl ?_)
        refine ExL.free (fr_load rfl rfl rfl rfl (CellO.blk (i := 1) rfl rfl)) rfl rfl rfl ?_
        refine ExL.pures 1 rfl ?_
        refine ExL.gtr rfl rfl rfl rfl rfl rfl (fun h14 => ?_) (fun h14 => ?_)
        · refine ExL.nil ?_
          refine Ex.cond_t rfl ?_
          refine Ex.regSeq (ExL.pures 1 rfl ?_)
          refine ExL.free (fr_load rfl rfl rfl rfl (CellO.blk (i := 1) rfl rfl)) rfl rfl rfl ?_
          refine ExL.free (fr_slice_l (sz := 1) (1) (by first | rfl | (push_cast; rfl) | omega) rfl rfl rfl rfl rfl (by omega)) rfl rfl rfl ?_
          refine ExL.pures 1 rfl ?_
          refine ExL.op rfl (op_storeC (i := 1) rfl rfl rfl rfl rfl rfl rfl rfl rfl rfl ?_)
          refine ExL.nil ?_
          refine Ex.region (ExL.pures 1 rfl ?_)
          refine ExL.free (fr_load rfl rfl rfl rfl (CellO.blk (i := 1) rfl rfl)) rfl rfl rfl ?_
          refine ExL.free (by first | exact fr_add64 rfl rfl rfl (by omega) | exact fr_add rfl rfl rfl) rfl rfl rfl ?_
          refine ExL.pures 1 rfl ?_
          refine ExL.op rfl (op_storeC (i := 1) rfl rfl rfl rfl rfl rfl rfl rfl rfl rfl ?_)
          refine ExL.nil ?_
          refine Ex.regSeq (ExL.pures 0 rfl ?_)
          refine ExL.free (fr_loadN rfl rfl rfl rfl rfl (SegO.whole (i := 1) rfl)) rfl rfl rfl ?_
          refine ExL.op rfl (op_storeC (i := 4) rfl rfl rfl rfl rfl rfl rfl rfl rfl rfl ?_)
          refine ExL.nil ?_
          refine Ex.ret ?_
          refine MutQ.mk ((x6.2.1, x6.2.2), true, ((x4.1.1, x4.1.2), (stK (fitsF s l f) l.length)), ((x4.2.1, x4.2.2), (stB (fitsF s l f) l.length)), ((bstV (fitsF s l f) l.length l.length).cost + 1)) rfl (.cell rfl (.many rfl rfl rfl (SegO.whole (i := 4) rfl)) .nil) (encY_of true (by first | rfl | (show _ = (List.drop 1 _).length; rw [List.length_drop]; rfl) | exact len_app rfl) (by first | rfl | (rw [List.length_append]; rfl)) rfl rfl rfl) 6 [0, 2, 3] (by first | rfl | (simp only [List.flatMap_append, List.length_append]; rfl)) rfl (by constructor <;> first | (dsimp only; omega) | (dsimp only; simp only [List.length_append, List.length_cons, List.length_nil]; omega))
        · refine ExL.nil ?_
          refine Ex.cond_f rfl ?_
          refine Ex.skip ?_
          refine Ex.regSeq (ExL.pures 0 rfl ?_)
          refine ExL.free (fr_loadN rfl rfl rfl rfl rfl (SegO.whole (i := 1) rfl)) rfl rfl rfl ?_
          refine ExL.op rfl (op_storeC (i := 4) rfl rfl rfl rfl rfl rfl rfl rfl rfl rfl ?_)
          refine ExL.nil ?_
          refine Ex.ret ?_
          refine MutQ.mk ((x6.2.1, x6.2.2), false, ((x4.1.1, x4.1.2), (stK (fitsF s l f) l.length)), ((x4.2.1, x4.2.2), (stB (fitsF s l f) l.length)), (bstV (fitsF s l f) l.length l.length).cost) rfl (.cell rfl (.many rfl rfl rfl (SegO.whole (i := 4) rfl)) .nil) (encY_of false (by first | rfl | (show _ = (List.drop 1 _).length; rw [List.length_drop]; rfl) | exact len_app rfl) (by first | rfl | (rw [List.length_append]; rfl)) rfl rfl rfl) 6 [0, 2, 3] (by first | rfl | (simp only [List.flatMap_append, List.length_append]; rfl)) rfl (by constructor <;> first | (dsimp only; omega) | (dsimp only; simp only [List.length_append, List.length_cons, List.length_nil]; omega))
      · refine ExL.pures 1 rfl ?_
        refine ExL.nil ?_
        refine Ex.cond_f rfl ?_
        refine Ex.regSeq (ExL.pures 0 rfl ?_)
        refine ExL.eql rfl rfl rfl rfl rfl rfl (fun h15 => ?_) (fun h15 => ?_)
        · refine ExL.pures 1 rfl ?_
          refine ExL.nil ?_
          refine Ex.cond_t rfl ?_
          refine Ex.regSeq (ExL.pures 1 rfl ?_)
          refine ExL.free (fr_load rfl rfl rfl rfl (CellO.blk (i := 1) rfl rfl)) rfl rfl rfl ?_
          refine ExL.pures 1 rfl ?_
          refine ExL.gtr rfl rfl rfl rfl rfl rfl (fun h16 => ?_) (fun h16 => ?_)
          · refine ExL.pures 2 rfl ?_
            refine ExL.free (fr_load rfl rfl rfl rfl (CellO.blk (i := 1) rfl rfl)) rfl rfl rfl ?_
            refine ExL.pures 1 rfl ?_
            refine ExL.eql rfl rfl rfl rfl rfl rfl (fun h17 => ?_) (fun h17 => ?_)
            · refine ExL.pures 1 rfl ?_
              refine ExL.nil ?_
              refine Ex.cond_t rfl ?_
              refine Ex.regSeq (ExL.pures 1 rfl ?_)
              refine ExL.free (fr_load rfl rfl rfl rfl (CellO.blk (i := 1) rfl rfl)) rfl rfl rfl ?_
              refine ExL.pures 1 rfl ?_
              refine ExL.free (fr_load rfl rfl rfl rfl (CellO.blk (i := 1) rfl rfl)) rfl rfl rfl ?_
              refine ExL.pures 1 rfl ?_
              refine ExL.free (by first | exact fr_sub64 rfl rfl rfl (by omega) | exact fr_sub rfl rfl rfl) rfl rfl rfl ?_
              refine ExL.free (fr_indexAddrR (sz := 1) 2 rfl rfl rfl rfl rfl rfl (by omega)) rfl rfl rfl ?_
              refine ExL.free (fr_load rfl rfl rfl rfl (cellJ (i := ((stK (fitsF s l f) l.length).length - 1)) (((stK (fitsF s l f) l.length).length - 1)) (Reads.row (i := 2) rfl) (eI_len .i64) 0 0 rfl (by omega) (by omega) rfl)) rfl rfl rfl ?_
              refine ExL.op rfl (op_buildSlice (sz := 1) rfl rfl rfl rfl rfl rfl rfl rfl (by decide) rfl rfl rfl (fun r18 => ?_))
              refine ExL.pures 1 rfl ?_
              refine ExL.op rfl (op_storeC (i := 2) rfl rfl rfl rfl rfl rfl rfl rfl rfl rfl ?_)
              refine ExL.nil ?_
              refine Ex.region (ExL.pures 1 rfl ?_)
              refine ExL.free (fr_load rfl rfl rfl rfl (CellO.blk (i := 2) rfl rfl)) rfl rfl rfl ?_
              refine ExL.free (by first | exact fr_add64 rfl rfl rfl (by omega) | exact fr_add rfl rfl rfl) rfl rfl rfl ?_
              refine ExL.pures 1 rfl ?_
              refine ExL.op rfl (op_storeC (i := 2) rfl rfl rfl rfl rfl rfl rfl rfl rfl rfl ?_)
              refine ExL.nil ?_
              refine Ex.regSeq (ExL.pures 0 rfl ?_)
              refine ExL.free (fr_loadN rfl rfl rfl rfl rfl (SegO.whole (i := 2) rfl)) rfl rfl rfl ?_
              refine ExL.op rfl (op_storeC (i := 5) rfl rfl rfl rfl rfl rfl rfl rfl rfl rfl ?_)
              refine ExL.nil ?_
              refine Ex.ret ?_
              refine MutQ.mk ((x6.2.1, x6.2.2), false, ((x4.1.1, x4.1.2), (stK (fitsF s l f) l.length)), (((some ⟨r18, 0, none⟩), 1), [((stK (fitsF s l f) l.length).getD ((stK (fitsF s l f) l.length).length - 1) 0)]), ((bstV (fitsF s l f) l.length l.length).cost + 2)) rfl (.cell rfl (.many rfl rfl rfl (SegO.whole (i := 5) rfl)) .nil) (encY_of false (by first | rfl | (show _ = (List.drop 1 _).length; rw [List.length_drop]; rfl) | exact len_app rfl) (by first | rfl | (rw [List.length_append]; rfl)) rfl rfl rfl) 7 [1, 3, 0] (by first | rfl | (simp only [List.flatMap_append, List.length_append]; rfl)) rfl (by constructor <;> first | (dsimp only; omega) | (dsimp only; simp only [List.length_append, List.length_cons, List.length_nil]; omega))
            · refine ExL.pures 1 rfl ?_
              refine ExL.nil ?_
              refine Ex.cond_f rfl ?_
              refine Ex.skip ?_
              refine Ex.regSeq (ExL.pures 0 rfl ?_)
              refine ExL.free (fr_loadN rfl rfl rfl rfl rfl (SegO.whole (i := 1) rfl)) rfl rfl rfl ?_
              refine ExL.op rfl (op_storeC (i := 4) rfl rfl rfl rfl rfl rfl rfl rfl rfl rfl ?_)
              refine ExL.nil ?_
              refine Ex.ret ?_
              refine MutQ.mk ((x6.2.1, x6.2.2), false, ((x4.1.1, x4.1.2), (stK (fitsF s l f) l.length)), ((x4.2.1, x4.2.2), (stB (fitsF s l f) l.length)), (bstV (fitsF s l f) l.length l.length).cost) rfl (.cell rfl (.many rfl rfl rfl (SegO.whole (i := 4) rfl)) .nil) (encY_of false (by first | rfl | (show _ = (List.drop 1 _).length; rw [List.length_drop]; rfl) | exact len_app rfl) (by first | rfl | (rw [List.length_append]; rfl)) rfl rfl rfl) 6 [0, 2, 3] (by first | rfl | (simp only [List.flatMap_append, List.length_append]; rfl)) rfl (by constructor <;> first | (dsimp only; omega) | (dsimp only; simp only [List.length_append, List.length_cons, List.length_nil]; omega))
          · refine ExL.pures 6 rfl ?_
            refine ExL.nil ?_
            refine Ex.cond_f rfl ?_
            refine Ex.skip ?_
            refine Ex.regSeq (ExL.pures 0 rfl ?_)
            refine ExL.free (fr_loadN rfl rfl rfl rfl rfl (SegO.whole (i := 1) rfl)) rfl rfl rfl ?_
            refine ExL.op rfl (op_storeC (i := 4) rfl rfl rfl rfl rfl rfl rfl rfl rfl rfl ?_)
            refine ExL.nil ?_
            refine Ex.ret ?_
            refine MutQ.mk ((x6.2.1, x6.2.2), false, ((x4.1.1, x4.1.2), (stK (fitsF s l f) l.length)), ((x4.2.1, x4.2.2), (stB (fitsF s l f) l.length)), (bstV (fitsF s l f) l.length l.length).cost) rfl (.cell rfl (.many rfl rfl rfl (SegO.whole (i := 4) rfl)) .nil) (encY_of false (by first | rfl | (show _ = (List.drop 1 _).length; rw [List.length_drop]; rfl) | exact len_app rfl) (by first | rfl | (rw [List.length_append]; rfl)) rfl rfl rfl) 6 [0, 2, 3] (by first | rfl | (simp only [List.flatMap_append, List.length_append]; rfl)) rfl (by constructor <;> first | (dsimp only; omega) | (dsimp only; simp only [List.length_append, List.length_cons, List.length_nil]; omega))
        · refine ExL.pures 1 rfl ?_
          refine ExL.nil ?_
          refine Ex.cond_f rfl ?_
          refine Ex.regSeq (ExL.pures 0 rfl ?_)
          refine ExL.eql rfl rfl rfl rfl rfl rfl (fun h19 => ?_) (fun h19 => ?_)
          · refine ExL.pures 1 rfl ?_
            refine ExL.nil ?_
            refine Ex.cond_t rfl ?_
            refine Ex.drawI [1, 2, 4, 5] rfl rfl ?_
            refine ExD.take (i := 0) rfl (by kernel_rfl) (pureVal_ok rfl) ((List.Sublist.cons _ (List.Sublist.cons_cons _ (List.Sublist.cons_cons _ (List.Sublist.cons _ (List.Sublist.cons_cons _ (List.Sublist.cons_cons _ (List.nil_sublist _)))))))) rfl rfl rfl ?_
            refine ExD.take (i := 1) rfl (by kernel_rfl) (fr_load rfl rfl rfl rfl (CellO.blk (i := 0) rfl rfl)) ((List.Sublist.cons _ (List.Sublist.cons_cons _ (List.Sublist.cons_cons _ (List.Sublist.cons _ (List.Sublist.cons_cons _ (List.Sublist.cons_cons _ (List.nil_sublist _)))))))) rfl rfl rfl ?_
            refine ExD.take (i := 2) rfl (by kernel_rfl) (pureVal_ok rfl) ((List.Sublist.cons _ (List.Sublist.cons_cons _ (List.Sublist.cons_cons _ (List.Sublist.cons _ (List.Sublist.cons_cons _ (List.Sublist.cons_cons _ (List.nil_sublist _)))))))) rfl rfl rfl ?_
            refine ExD.op (i := 3) rfl (by kernel_rfl) rfl (op_mut rfl rfl rfl (c_pick code _ _ (by omega) (by assumption) _ x6.2.1 _ (by omega) 9 (by omega)) (perm_at (i := 0) rfl) (hcode) rfl rfl (fun x20 hx20 => ⟨(List.Sublist.cons _ (List.Sublist.cons_cons _ (List.Sublist.cons_cons _ (List.Sublist.cons _ (List.Sublist.cons_cons _ (List.Sublist.cons_cons _ (List.nil_sublist _))))))), ?_⟩))
            refine ExD.take (i := 4) rfl (by kernel_rfl) (by first | exact fr_sub64 rfl rfl rfl (by omega) | exact fr_sub rfl rfl rfl) ((List.Sublist.cons _ (List.Sublist.cons_cons _ (List.Sublist.cons_cons _ (List.Sublist.cons _ (List.Sublist.cons_cons _ (List.Sublist.cons_cons _ (List.nil_sublist _)))))))) rfl rfl rfl ?_
            refine ExD.op (i := 5) rfl (by kernel_rfl) rfl (op_buildSlice (sz := 1) rfl rfl rfl rfl rfl rfl rfl rfl (by decide) rfl rfl rfl (fun r21 => ⟨(List.Sublist.cons _ (List.Sublist.cons _ (List.Sublist.cons_cons _ (List.Sublist.cons_cons _ (List.Sublist.cons _ (List.Sublist.cons_cons _ (List.Sublist.cons_cons _ (List.nil_sublist _)))))))), ?_⟩))
            refine ExD.op (i := 6) rfl (by kernel_rfl) rfl (op_append (sz := 1) (bytes := 8) (i := 4) rfl rfl rfl rfl (Reads.row (i := 0) rfl) rfl (fun e => nomatch e) rfl rfl rfl rfl (by constructor <;> first | omega | (unfold maxLen; omega)) rfl rfl (fun A22 cA22 => ⟨(List.Sublist.cons _ (List.Sublist.cons _ (List.Sublist.cons_cons _ (List.Sublist.cons_cons _ (List.Sublist.cons _ (List.Sublist.cons_cons _ (List.Sublist.cons_cons _ (List.nil_sublist _)))))))), ?_⟩))
            refine ExD.take (i := 7) rfl (by kernel_rfl) (pureVal_ok rfl) ((List.Sublist.cons _ (List.Sublist.cons _ (List.Sublist.cons_cons _ (List.Sublist.cons_cons _ (List.Sublist.cons _ (List.Sublist.cons_cons _ (List.Sublist.cons_cons _ (List.nil_sublist _))))))))) rfl rfl rfl ?_
            refine ExD.last (i := 8) rfl (by kernel_rfl) (by kernel_rfl) rfl (op_storeC (i := 2) rfl rfl rfl rfl rfl rfl rfl rfl rfl rfl ?_)
            refine ExD.done (by kernel_rfl) ?_
            refine Ex.regSeq (ExL.pures 0 rfl ?_)
            refine ExL.free (fr_loadN rfl rfl rfl rfl rfl (SegO.whole (i := 2) rfl)) rfl rfl rfl ?_
            refine ExL.op rfl (op_storeC (i := 5) rfl rfl rfl rfl rfl rfl rfl rfl rfl rfl ?_)
            refine ExL.nil ?_
            refine Ex.ret ?_
            refine MutQ.mk ((x20.2.1, x20.2.2), false, ((x4.1.1, x4.1.2), (stK (fitsF s l f) l.length)), ((A22, cA22), ((stB (fitsF s l f) l.length) ++ [(x20.1 - 1)])), (bstV (fitsF s l f) l.length l.length).cost) rfl (.cell rfl (.many rfl rfl rfl (SegO.whole (i := 5) rfl)) .nil) (encY_of false (by first | rfl | (show _ = (List.drop 1 _).length; rw [List.length_drop]; rfl) | exact len_app rfl) (by first | rfl | (rw [List.length_append]; rfl)) rfl rfl rfl) 7 [1, 3, 4] (by first | rfl | (simp only [List.flatMap_append, List.length_append]; rfl)) rfl (by constructor <;> first | (dsimp only; omega) | (dsimp only; simp only [List.length_append, List.length_cons, List.length_nil]; omega))
          · refine ExL.pures 1 rfl ?_
            refine ExL.nil ?_
            refine Ex.cond_f rfl ?_
            refine Ex.skip ?_
            refine Ex.regSeq (ExL.pures 0 rfl ?_)
            refine ExL.free (fr_loadN rfl rfl rfl rfl rfl (SegO.whole (i := 1) rfl)) rfl rfl rfl ?_
            refine ExL.op rfl (op_storeC (i := 4) rfl rfl rfl rfl rfl rfl rfl rfl rfl rfl ?_)
            refine ExL.nil ?_
            refine Ex.ret ?_
            refine MutQ.mk ((x6.2.1, x6.2.2), false, ((x4.1.1, x4.1.2), (stK (fitsF s l f) l.length)), ((x4.2.1, x4.2.2), (stB (fitsF s l f) l.length)), (bstV (fitsF s l f) l.length l.length).cost) rfl (.cell rfl (.many rfl rfl rfl (SegO.whole (i := 4) rfl)) .nil) (encY_of false (by first | rfl | (show _ = (List.drop 1 _).length; rw [List.length_drop]; rfl) | exact len_app rfl) (by first | rfl | (rw [List.length_append]; rfl)) rfl rfl rfl) 6 [0, 2, 3] (by first | rfl | (simp only [List.flatMap_append, List.length_append]; rfl)) rfl (by constructor <;> first | (dsimp only; omega) | (dsimp only; simp only [List.length_append, List.length_cons, List.length_nil]; omega))
theorem e_20 : Enters Tryz.prog 20 := Enters.of Tryz.func20 rfl
theorem c_A2Story (code : List Int) (Ac : Option Addr) (cc : Nat) (hcl : code.length ≤ maxLen) (hcu : Nums 255 code) (s : List Int) (hu : Nums 255 s) (As : Option Addr) (cs : Nat) (hls : s.length ≤ maxLen) (l : List VP) (Al : Option Addr) (cl : Nat) (hll : l.length ≤ maxLen) (f : VP) (hask : askS s l f = true) : Ret Tryz.prog 20 [.slice Ac code.length cc, .slice As s.length cs, .slice Al l.length cl, .agg (encP f).toArray] (fun w => Rd w Ac (code.flatMap (eI .u8)) ∧ Rd w As (s.flatMap (eI .u8)) ∧ Rd w Al (l.flatMap encP)) (fun x : Bool × ((Option Addr × Nat) × List Int) × ((Option Addr × Nat) × List Int) × Int => .agg (encY (cutJ x.1 x.2.1.1.1 x.2.1.1.2) (x.2.1.1.2 - backB x.1) x.2.2.1.1.1 x.2.2.1.1.2 (⟨dropB x.1 x.2.1.2, x.2.2.1.2, x.2.2.2⟩ : VSt)).toArray) (fun x => [.row (.slice x.2.1.1.1 x.2.1.2.length x.2.1.1.2) 2 1 x.2.1.2.length (x.2.1.2.flatMap (eI .i64)), .row (.slice x.2.2.1.1.1 x.2.2.1.2.length x.2.2.1.1.2) 2 1 x.2.2.1.2.length (x.2.2.1.2.flatMap (eI .i64))]) (fun x => x.2.1.2.length ≤ 50 ∧ x.2.2.1.2.length ≤ 50) := by
  refine Ret.of e_20 Tryz.func20 rfl Tryz.ntmps20 rfl rfl (fun w hpre => ?_)
  have hcode := hpre.1.base
  have hs := hpre.2.1.base
  have hl := hpre.2.2.base
  have hm0 : maxLen = 9223372036854775807 := rfl
  refine Ex.regSeq (ExL.pures 0 rfl ?_)
  refine ExL.op rfl (op_box rfl rfl rfl rfl rfl (fun b1 => ?_))
  refine ExL.op rfl (op_alloc rfl rfl rfl rfl rfl (fun b2 => ?_))
  refine ExL.nil ?_
  refine Ex.drawSeqM rfl ?_
  refine ExD.take (i := 0) rfl (by kernel_rfl) (pureVal_ok rfl) ((List.Sublist.refl _)) rfl rfl rfl ?_
  refine ExD.take (i := 2) rfl (by kernel_rfl) (pureVal_ok rfl) ((List.Sublist.refl _)) rfl rfl rfl ?_
  refine ExD.take (i := 3) rfl (by kernel_rfl) (pureVal_ok rfl) ((List.Sublist.refl _)) rfl rfl rfl ?_
  refine ExD.take (i := 4) rfl (by kernel_rfl) (fr_loadN rfl rfl rfl rfl rfl (SegO.whole (i := 1) rfl)) ((List.Sublist.refl _)) rfl rfl rfl ?_
  refine ExD.op (i := 1) rfl (by kernel_rfl) rfl (op_ret rfl rfl rfl (c_l00From code _ _) (fun _ _ => trivial) rfl rfl (fun x3 hx3 => ⟨(List.Sublist.cons _ (List.Sublist.refl _)), ?_⟩))
  refine ExD.op (i := 5) rfl (by kernel_rfl) rfl (op_mut rfl rfl rfl (c_l04StoryD code _ _ (by omega) (by assumption) _ 0 _ (by omega) s (by assumption) _ _ (by omega) l _ _ (by omega) f (by assumption)) (perm_at (i := 0) rfl) (⟨hcode, hs, hl⟩) rfl rfl (fun x4 hx4 => ⟨(List.Sublist.cons _ (List.Sublist.cons _ (List.Sublist.cons _ (List.Sublist.refl _)))), ?_⟩))
  refine ExD.last (i := 6) rfl (by kernel_rfl) (by kernel_rfl) rfl (op_storeC (i := 3) rfl rfl rfl rfl rfl rfl rfl rfl rfl rfl ?_)
  refine ExD.done (by kernel_rfl) ?_
  refine Ex.ret ?_
  refine RetQ.mk x4.2 rfl (.cell rfl (.many rfl rfl rfl (SegO.whole (i := 3) rfl)) .nil) (rfl) [1, 2] (rfl) rfl (hx4)
end Go.Proofs.YtddflaaccmjoeaaGreatDoor

/- What these functions of the program hand back, each proved by walking its operations. -/
set_option linter.unusedVariables false
set_option linter.unusedSimpArgs false
set_option maxRecDepth 4000
namespace Go.Proofs.YtddflaaccmjoeaaGreatDoor
open Go Go.Sx Go.RowKit Go.W Go.Proofs
attribute [local irreducible] Ex ExL ExD Op1 Free RetQ MutQ Reads CellO SegO LoadsAs
theorem e_29 : Enters Tryz.prog 29 := Enters.of Tryz.func29 rfl
set_option maxHeartbeats 1000000 in
theorem c_l04Drawn (code : List Int) (Ac : Option Addr) (cc : Nat) (hcl : code.length ≤ maxLen) (hcu : Nums 255 code) (b : Nat) (at_ sd : Int) (hat : 0 ≤ at_ ∧ at_ ≤ 500000) (f : VP) (hf : 0 ≤ f.a ∧ f.a ≤ 100) : Mut Tryz.prog 29 [.pointer (some ⟨b, 0, none⟩), .agg (encP f).toArray] [.blk b [.slice Ac code.length cc, .int .i64 at_, .int .u64 sd] 113] (fun base w0 F => RdB base w0 Ac (code.flatMap (eI .u8))) (fun x : (Int × Int) × ((Option Addr × Nat) × List Int) × ((Option Addr × Nat) × List VP) => .tuple #[.slice x.2.1.1.1 x.2.1.2.length x.2.1.1.2, .slice x.2.2.1.1 x.2.2.2.length x.2.2.1.2]) (fun x => [.blk b [.slice Ac code.length cc, .int .i64 x.1.1, .int .u64 x.1.2] 113, .row (.slice x.2.1.1.1 x.2.1.2.length x.2.1.1.2) 5 1 x.2.1.2.length (x.2.1.2.flatMap (eI .u8)), .row (.slice x.2.2.1.1 x.2.2.2.length x.2.2.1.2) 85 2 x.2.2.2.length (x.2.2.2.flatMap encP)]) (fun x => LgDr x.2.1.2 x.2.2.2) := by
  refine Mut.of e_29 Tryz.func29 rfl Tryz.ntmps29 rfl rfl (fun base w0 F hfr => ?_)
  have hcode := hfr
  have hm0 : maxLen = 9223372036854775807 := rfl
  refine Ex.regSeq (ExL.pures 0 rfl ?_)
  refine ExL.op rfl (op_box rfl rfl rfl rfl rfl (fun b1 => ?_))
  refine ExL.pures 2 rfl ?_
  refine ExL.nil ?_
  refine Ex.regSeq (ExL.pures 0 rfl ?_)
  refine ExL.op rfl (op_buildSlice (sz := 1) rfl rfl rfl rfl rfl rfl rfl rfl (by decide) rfl rfl rfl (fun r2 => ?_))
  refine ExL.pures 1 rfl ?_
  refine ExL.nil ?_
  refine Ex.seq ?_
  refine Ex.regSeq (ExL.pures 1 rfl ?_)
  refine ExL.op rfl (op_mut rfl rfl rfl (c_pick code _ _ (by omega) (by assumption) _ at_ _ (by omega) 4 (by omega)) (perm_at (i := 2) rfl) (hcode) rfl rfl (fun x3 hx3 => ?_))
  refine ExL.nil ?_
  refine Ex.block ?_
  refine Ex.regSeq (ExL.pures 0 rfl ?_)
  refine ExL.eql rfl rfl rfl rfl rfl rfl (fun h4 => ?_) (fun h4 => ?_)
  · refine ExL.pures 1 rfl ?_
    refine ExL.nil ?_
    refine Ex.cond_t rfl ?_
    refine Ex.region (ExL.pures 0 rfl ?_)
    refine ExL.op rfl (op_buildSlice (sz := 1) rfl rfl rfl rfl rfl rfl rfl rfl (by decide) rfl rfl rfl (fun r5 => ?_))
    refine ExL.pures 1 rfl ?_
    refine ExL.nil ?_
    obtain ⟨hn9, hv9, hz9⟩ := lg_b
    refine Ex.regSeq (ExL.pures 1 rfl ?_)
    refine ExL.op rfl (op_ret rfl rfl rfl (c_l01Size [10, 10, 10] (by assumption) _ _ (by first | assumption | omega | (unfold maxLen; omega) | decide)) (Reads.get (Reads.row (i := 0) rfl)) rfl rfl (fun x6 hx6 => ?_))
    refine ExL.pures 1 rfl ?_
    refine ExL.nil ?_
    rw [hz9]
    refine Ex.regSeq (ExL.pures 0 rfl ?_)
    refine ExL.op rfl (op_buildSlice (sz := 2) rfl rfl rfl rfl rfl rfl rfl rfl (by decide) rfl rfl rfl (fun r7 => ?_))
    refine ExL.pures 1 rfl ?_
    refine ExL.nil ?_
    refine Ex.regSeq (ExL.pures 1 rfl ?_)
    refine ExL.op rfl (op_mut rfl rfl rfl (c_pick code _ _ (by omega) (by assumption) _ x3.2.1 _ (by omega) 5 (by omega)) (perm_at (i := 2) rfl) (hcode) rfl rfl (fun x8 hx8 => ?_))
    refine ExL.pures 2 rfl ?_
    refine ExL.op rfl (op_mut rfl rfl rfl (c_pick code _ _ (by omega) (by assumption) _ x8.2.1 _ (by omega) 1000 (by omega)) (perm_at (i := 0) rfl) (hcode) rfl rfl (fun x9 hx9 => ?_))
    refine ExL.free (fr_build rfl rfl rfl rfl) rfl rfl rfl ?_
    refine ExL.op rfl (op_alloc rfl rfl rfl rfl rfl (fun b10 => ?_))
    refine ExL.op rfl (op_storeC (i := 0) rfl rfl rfl rfl rfl rfl rfl rfl rfl rfl ?_)
    refine ExL.nil ?_
    refine Ex.seq ?_
    refine Ex.regSeq (ExL.pures 1 rfl ?_)
    refine ExL.op rfl (op_mut rfl rfl rfl (c_pick code _ _ (by omega) (by assumption) _ x9.2.1 _ (by omega) 9 (by omega)) (perm_at (i := 1) rfl) (hcode) rfl rfl (fun x11 hx11 => ?_))
    refine ExL.pures 1 rfl ?_
    refine ExL.nil ?_
    refine Ex.block ?_
    refine Ex.loopK (X := DrS) (fun q => [(8, .slice q.A q.l.length q.c), (10, .int .i64 q.k)]) (fun q => [.blk b10 (encP q.p) 85, .blk b [.slice Ac code.length cc, .int .i64 q.at_, .int .u64 q.sd] 113, .row (.slice q.A q.l.length q.c) 85 2 q.l.length (q.l.flatMap encP)]) (fun q => LgP 1000 q.l q.p ∧ (q.l.length : Int) + q.k ≤ 8 ∧ 0 ≤ q.k ∧ at_ ≤ q.at_ ∧ q.at_ ≤ at_ + 8 + 12 * (q.l.length : Int)) (fun q => q.k.toNat) (⟨[], ⟨x8.1, x9.1⟩, x11.2.1, x11.2.2, x11.1, (some ⟨r7, 0, none⟩), 0⟩ : DrS) [(0, _), (3, _), (4, _), (5, _), (6, _), (7, _), (9, _)] (_ :: _ :: F) 6 [1, 0, 2, 3, 5] ⟨rfl, rfl, trivial⟩ ⟨rfl, rfl, rfl, rfl, rfl, rfl, rfl, trivial⟩ (rfl) rfl ⟨LgP.nil ⟨by dsimp only; omega, by dsimp only; omega⟩ ⟨by dsimp only; omega, by dsimp only; omega⟩, by dsimp only [List.length_nil]; omega, by dsimp only; omega, by dsimp only; omega, by dsimp only [List.length_nil]; omega⟩ (fun q hI => ?_)
    have hI : LgP 1000 q.l q.p ∧ (q.l.length : Int) + q.k ≤ 8 ∧ 0 ≤ q.k ∧ at_ ≤ q.at_ ∧ q.at_ ≤ at_ + 8 + 12 * (q.l.length : Int) := hI
    obtain ⟨hL, hlk, hk0, hat1, hat2⟩ := hI
    have hLa := hL.ra
    have hLb := hL.rb
    refine Ex.seq ?_
    refine Ex.regSeq (ExL.pures 1 rfl ?_)
    refine ExL.gtr rfl rfl rfl rfl rfl rfl (fun h12 => ?_) (fun h12 => ?_)
    · refine ExL.nil ?_
      refine Ex.cond_t rfl ?_
      refine Ex.skip ?_
      refine Ex.seq ?_
      refine Ex.block ?_
      refine Ex.regSeq (ExL.pures 0 rfl ?_)
      refine ExL.free (fr_loadN rfl rfl rfl rfl rfl (SegO.whole (i := 0) rfl)) rfl rfl rfl ?_
      refine ExL.op rfl (op_alloc rfl rfl rfl rfl rfl (fun b13 => ?_))
      refine ExL.op rfl (op_storeC (i := 0) rfl rfl rfl rfl rfl rfl rfl rfl rfl rfl ?_)
      refine ExL.nil ?_
      refine Ex.seq ?_
      refine Ex.regSeq (ExL.pures 1 rfl ?_)
      refine ExL.op rfl (op_mut rfl rfl rfl (c_one code _ _ (by omega) (by assumption) _ q.at_ _ (by omega) 6 (by omega)) (perm_at (i := 2) rfl) (hcode) rfl rfl (fun x14 hx14 => ?_))
      refine ExL.nil ?_
      refine Ex.cond rfl (fun hb15 => ?_) (fun hb15 => ?_)
      · refine Ex.region (ExL.pures 2 rfl ?_)
        refine ExL.op rfl (op_mut rfl rfl rfl (c_pick code _ _ (by omega) (by assumption) _ x14.2.1 _ (by omega) 1000 (by omega)) (perm_at (i := 0) rfl) (hcode) rfl rfl (fun x16 hx16 => ?_))
        refine ExL.pures 1 rfl ?_
        refine ExL.op rfl (op_storeC (i := 1) rfl rfl rfl rfl rfl rfl rfl rfl rfl rfl ?_)
        refine ExL.nil ?_
        refine Ex.regSeq (ExL.pures 1 rfl ?_)
        refine ExL.free (fr_loadN rfl rfl rfl rfl rfl (SegO.whole (i := 1) rfl)) rfl rfl rfl ?_
        refine ExL.op rfl (op_buildSlice (sz := 2) rfl rfl rfl rfl rfl rfl rfl rfl (by decide) rfl rfl rfl (fun r17 => ?_))
        refine ExL.op rfl (op_append (sz := 2) (bytes := 16) (i := 4) rfl rfl rfl rfl (Reads.row (i := 0) rfl) rfl (fun e => nomatch e) rfl rfl rfl rfl (by constructor <;> first | omega | (unfold maxLen; omega)) rfl rfl (fun A18 cA18 => ?_))
        refine ExL.pures 1 rfl ?_
        refine ExL.nil ?_
        refine Ex.regSeq (ExL.pures 1 rfl ?_)
        refine ExL.op rfl (op_mut rfl rfl rfl (c_pick code _ _ (by omega) (by assumption) _ x16.2.1 _ (by omega) 4 (by omega)) (perm_at (i := 1) rfl) (hcode) rfl rfl (fun x20 hx20 => ?_))
        refine ExL.free (by first | exact fr_add64 rfl rfl rfl (by omega) | exact fr_add rfl rfl rfl) rfl rfl rfl ?_
        refine ExL.pures 1 rfl ?_
        refine ExL.nil ?_
        refine Ex.regSeq (ExL.pures 1 rfl ?_)
        refine ExL.free (fr_load rfl rfl rfl rfl (CellO.blk (i := 3) rfl rfl)) rfl rfl rfl ?_
        refine ExL.pures 1 rfl ?_
        refine ExL.free (by first | exact fr_add64 rfl rfl rfl (by omega) | exact fr_add rfl rfl rfl) rfl rfl rfl ?_
        refine ExL.pures 1 rfl ?_
        refine ExL.op rfl (op_storeC (i := 3) rfl rfl rfl rfl rfl rfl rfl rfl rfl rfl ?_)
        refine ExL.nil ?_
        refine Ex.drawSeqI [1, 2, 3, 4, 5, 6] rfl rfl ?_
        refine ExD.take (i := 0) rfl (by kernel_rfl) (pureVal_ok rfl) ((List.Sublist.cons _ (List.Sublist.cons_cons _ (List.Sublist.cons_cons _ (List.Sublist.cons_cons _ (List.Sublist.cons_cons _ (List.Sublist.cons_cons _ (List.Sublist.cons_cons _ (List.nil_sublist _))))))))) rfl rfl rfl ?_
        refine ExD.take (i := 1) rfl (by kernel_rfl) (fr_load rfl rfl rfl rfl (CellO.blk (i := 2) rfl rfl)) ((List.Sublist.cons _ (List.Sublist.cons_cons _ (List.Sublist.cons_cons _ (List.Sublist.cons_cons _ (List.Sublist.cons_cons _ (List.Sublist.cons_cons _ (List.Sublist.cons_cons _ (List.nil_sublist _))))))))) rfl rfl rfl ?_
        refine ExD.take (i := 2) rfl (by kernel_rfl) (pureVal_ok rfl) ((List.Sublist.cons _ (List.Sublist.cons_cons _ (List.Sublist.cons_cons _ (List.Sublist.cons_cons _ (List.Sublist.cons_cons _ (List.Sublist.cons_cons _ (List.Sublist.cons_cons _ (List.nil_sublist _))))))))) rfl rfl rfl ?_
        refine ExD.take (i := 3) rfl (by kernel_rfl) (pureVal_ok rfl) ((List.Sublist.cons _ (List.Sublist.cons_cons _ (List.Sublist.cons_cons _ (List.Sublist.cons_cons _ (List.Sublist.cons_cons _ (List.Sublist.cons_cons _ (List.Sublist.cons_cons _ (List.nil_sublist _))))))))) rfl rfl rfl ?_
        refine ExD.take (i := 4) rfl (by kernel_rfl) (fr_load rfl rfl rfl rfl (CellO.blk (i := 5) rfl rfl)) ((List.Sublist.cons _ (List.Sublist.cons_cons _ (List.Sublist.cons_cons _ (List.Sublist.cons_cons _ (List.Sublist.cons_cons _ (List.Sublist.cons_cons _ (List.Sublist.cons_cons _ (List.nil_sublist _))))))))) rfl rfl rfl ?_
        refine ExD.take (i := 5) rfl (by kernel_rfl) (pureVal_ok rfl) ((List.Sublist.cons _ (List.Sublist.cons_cons _ (List.Sublist.cons_cons _ (List.Sublist.cons_cons _ (List.Sublist.cons_cons _ (List.Sublist.cons_cons _ (List.Sublist.cons_cons _ (List.nil_sublist _))))))))) rfl rfl rfl ?_
        refine ExD.take (i := 10) rfl (by kernel_rfl) (pureVal_ok rfl) ((List.Sublist.cons _ (List.Sublist.cons_cons _ (List.Sublist.cons_cons _ (List.Sublist.cons_cons _ (List.Sublist.cons_cons _ (List.Sublist.cons_cons _ (List.Sublist.cons_cons _ (List.nil_sublist _))))))))) rfl rfl rfl ?_
        refine ExD.op (i := 6) rfl (by kernel_rfl) rfl (op_mut rfl rfl rfl (c_pick code _ _ (by omega) (by assumption) _ x20.2.1 _ (by omega) 12 (by omega)) (perm_at (i := 0) rfl) (hcode) rfl rfl (fun x21 hx21 => ⟨(List.Sublist.cons _ (List.Sublist.cons_cons _ (List.Sublist.cons_cons _ (List.Sublist.cons_cons _ (List.Sublist.cons_cons _ (List.Sublist.cons_cons _ (List.Sublist.cons_cons _ (List.nil_sublist _)))))))), ?_⟩))
        have hpm := mul_small (a := (1 + x20.1)) (b := f.a + x21.1) (by omega) (by omega)
        refine ExD.take (i := 7) rfl (by kernel_rfl) (by first | exact fr_add64 rfl rfl rfl (by omega) | exact fr_add rfl rfl rfl) ((List.Sublist.cons _ (List.Sublist.cons_cons _ (List.Sublist.cons_cons _ (List.Sublist.cons_cons _ (List.Sublist.cons_cons _ (List.Sublist.cons_cons _ (List.Sublist.cons_cons _ (List.nil_sublist _))))))))) rfl rfl rfl ?_
        refine ExD.take (i := 8) rfl (by kernel_rfl) (by first | exact fr_mul64 rfl rfl rfl (by omega) | exact fr_mul rfl rfl rfl) ((List.Sublist.cons _ (List.Sublist.cons_cons _ (List.Sublist.cons_cons _ (List.Sublist.cons_cons _ (List.Sublist.cons_cons _ (List.Sublist.cons_cons _ (List.Sublist.cons_cons _ (List.nil_sublist _))))))))) rfl rfl rfl ?_
        refine ExD.take (i := 9) rfl (by kernel_rfl) (by first | exact fr_add64 rfl rfl rfl (by omega) | exact fr_add rfl rfl rfl) ((List.Sublist.cons _ (List.Sublist.cons_cons _ (List.Sublist.cons_cons _ (List.Sublist.cons_cons _ (List.Sublist.cons_cons _ (List.Sublist.cons_cons _ (List.Sublist.cons_cons _ (List.nil_sublist _))))))))) rfl rfl rfl ?_
        refine ExD.op (i := 11) rfl (by kernel_rfl) rfl (op_ret rfl rfl rfl (c_l04Mod _ _ (by omega) (by omega)) (fun _ _ => trivial) rfl rfl (fun x22 hx22 => ⟨(List.Sublist.cons _ (List.Sublist.cons_cons _ (List.Sublist.cons_cons _ (List.Sublist.cons_cons _ (List.Sublist.cons_cons _ (List.Sublist.cons_cons _ (List.Sublist.cons_cons _ (List.nil_sublist _)))))))), ?_⟩))
        refine ExD.take (i := 12) rfl (by kernel_rfl) (pureVal_ok rfl) ((List.Sublist.cons _ (List.Sublist.cons_cons _ (List.Sublist.cons_cons _ (List.Sublist.cons_cons _ (List.Sublist.cons_cons _ (List.Sublist.cons_cons _ (List.Sublist.cons_cons _ (List.nil_sublist _))))))))) rfl rfl rfl ?_
        refine ExD.last (i := 13) rfl (by kernel_rfl) (by kernel_rfl) rfl (op_storeC (i := 3) rfl rfl rfl rfl rfl rfl rfl rfl rfl rfl ?_)
        refine ExD.done (by kernel_rfl) ?_
        obtain ⟨rv, hrv⟩ : ∃ z : Int, ((q.p.b + (1 + x20.1) * (f.a + x21.1)) % 1000) = z := ⟨_, rfl⟩
        rw [hrv]
        have hrb : 0 ≤ rv ∧ rv < 1000 := by rw [← hrv]; exact ⟨Int.emod_nonneg _ (by omega), Int.emod_lt_of_pos _ (by omega)⟩
        refine Ex.regSeq (ExL.pures 1 rfl ?_)
        refine ExL.op rfl (op_mut rfl rfl rfl (c_one code _ _ (by omega) (by assumption) _ x21.2.1 _ (by omega) 8 (by omega)) (perm_at (i := 0) rfl) (hcode) rfl rfl (fun x23 hx23 => ?_))
        refine ExL.nil ?_
        refine Ex.cond rfl (fun hb24 => ?_) (fun hb24 => ?_)
        · refine Ex.region (ExL.pures 2 rfl ?_)
          refine ExL.op rfl (op_mut rfl rfl rfl (c_pick code _ _ (by omega) (by assumption) _ x23.2.1 _ (by omega) 1000 (by omega)) (perm_at (i := 0) rfl) (hcode) rfl rfl (fun x25 hx25 => ?_))
          refine ExL.pures 1 rfl ?_
          refine ExL.op rfl (op_storeC (i := 3) rfl rfl rfl rfl rfl rfl rfl rfl rfl rfl ?_)
          refine ExL.nil ?_
          refine Ex.region (ExL.pures 1 rfl ?_)
          refine ExL.free (by first | exact fr_sub64 rfl rfl rfl (by omega) | exact fr_sub rfl rfl rfl) rfl rfl rfl ?_
          refine ExL.pures 1 rfl ?_
          refine ExL.nil ?_
          refine Hand.mk (⟨q.l ++ [⟨q.p.a, x16.1⟩], ⟨(q.p.a + (1 + x20.1)), x25.1⟩, x25.2.1, x25.2.2, q.k - 1, A18, cA18⟩ : DrS) 7 [3, 0, 4, 5, 6] ⟨(by rw [List.length_append]; rfl), rfl, trivial⟩ ⟨rfl, rfl, rfl, rfl, rfl, rfl, rfl, trivial⟩ (by rw [List.length_append, List.flatMap_append]; rfl) rfl (⟨hL.next rfl ⟨by dsimp only; omega, by dsimp only; omega⟩ ⟨by dsimp only; omega, by dsimp only; omega⟩ ⟨by dsimp only; omega, by dsimp only; omega⟩, by dsimp only; rw [List.length_append, List.length_singleton]; omega, by dsimp only; omega, by dsimp only; omega, by dsimp only; rw [List.length_append, List.length_singleton]; push_cast; omega⟩) (by dsimp only; omega)
        · refine Ex.skip ?_
          refine Ex.region (ExL.pures 1 rfl ?_)
          refine ExL.free (by first | exact fr_sub64 rfl rfl rfl (by omega) | exact fr_sub rfl rfl rfl) rfl rfl rfl ?_
          refine ExL.pures 1 rfl ?_
          refine ExL.nil ?_
          refine Hand.mk (⟨q.l ++ [⟨q.p.a, x16.1⟩], ⟨(q.p.a + (1 + x20.1)), rv⟩, x23.2.1, x23.2.2, q.k - 1, A18, cA18⟩ : DrS) 7 [3, 0, 4, 5, 6] ⟨(by rw [List.length_append]; rfl), rfl, trivial⟩ ⟨rfl, rfl, rfl, rfl, rfl, rfl, rfl, trivial⟩ (by rw [List.length_append, List.flatMap_append]; rfl) rfl (⟨hL.next rfl ⟨by dsimp only; omega, by dsimp only; omega⟩ ⟨by dsimp only; omega, by dsimp only; omega⟩ ⟨by dsimp only; omega, by dsimp only; omega⟩, by dsimp only; rw [List.length_append, List.length_singleton]; omega, by dsimp only; omega, by dsimp only; omega, by dsimp only; rw [List.length_append, List.length_singleton]; push_cast; omega⟩) (by dsimp only; omega)
      · refine Ex.skip ?_
        refine Ex.regSeq (ExL.pures 1 rfl ?_)
        refine ExL.free (fr_loadN rfl rfl rfl rfl rfl (SegO.whole (i := 1) rfl)) rfl rfl rfl ?_
        refine ExL.op rfl (op_buildSlice (sz := 2) rfl rfl rfl rfl rfl rfl rfl rfl (by decide) rfl rfl rfl (fun r26 => ?_))
        refine ExL.op rfl (op_append (sz := 2) (bytes := 16) (i := 4) rfl rfl rfl rfl (Reads.row (i := 0) rfl) rfl (fun e => nomatch e) rfl rfl rfl rfl (by constructor <;> first | omega | (unfold maxLen; omega)) rfl rfl (fun A27 cA27 => ?_))
        refine ExL.pures 1 rfl ?_
        refine ExL.nil ?_
        refine Ex.regSeq (ExL.pures 1 rfl ?_)
        refine ExL.op rfl (op_mut rfl rfl rfl (c_pick code _ _ (by omega) (by assumption) _ x14.2.1 _ (by omega) 4 (by omega)) (perm_at (i := 1) rfl) (hcode) rfl rfl (fun x29 hx29 => ?_))
        refine ExL.free (by first | exact fr_add64 rfl rfl rfl (by omega) | exact fr_add rfl rfl rfl) rfl rfl rfl ?_
        refine ExL.pures 1 rfl ?_
        refine ExL.nil ?_
        refine Ex.regSeq (ExL.pures 1 rfl ?_)
        refine ExL.free (fr_load rfl rfl rfl rfl (CellO.blk (i := 3) rfl rfl)) rfl rfl rfl ?_
        refine ExL.pures 1 rfl ?_
        refine ExL.free (by first | exact fr_add64 rfl rfl rfl (by omega) | exact fr_add rfl rfl rfl) rfl rfl rfl ?_
        refine ExL.pures 1 rfl ?_
        refine ExL.op rfl (op_storeC (i := 3) rfl rfl rfl rfl rfl rfl rfl rfl rfl rfl ?_)
        refine ExL.nil ?_
        refine Ex.drawSeqI [1, 2, 3, 4, 5, 6] rfl rfl ?_
        refine ExD.take (i := 0) rfl (by kernel_rfl) (pureVal_ok rfl) ((List.Sublist.cons _ (List.Sublist.cons_cons _ (List.Sublist.cons_cons _ (List.Sublist.cons_cons _ (List.Sublist.cons_cons _ (List.Sublist.cons_cons _ (List.Sublist.cons_cons _ (List.nil_sublist _))))))))) rfl rfl rfl ?_
        refine ExD.take (i := 1) rfl (by kernel_rfl) (fr_load rfl rfl rfl rfl (CellO.blk (i := 2) rfl rfl)) ((List.Sublist.cons _ (List.Sublist.cons_cons _ (List.Sublist.cons_cons _ (List.Sublist.cons_cons _ (List.Sublist.cons_cons _ (List.Sublist.cons_cons _ (List.Sublist.cons_cons _ (List.nil_sublist _))))))))) rfl rfl rfl ?_
        refine ExD.take (i := 2) rfl (by kernel_rfl) (pureVal_ok rfl) ((List.Sublist.cons _ (List.Sublist.cons_cons _ (List.Sublist.cons_cons _ (List.Sublist.cons_cons _ (List.Sublist.cons_cons _ (List.Sublist.cons_cons _ (List.Sublist.cons_cons _ (List.nil_sublist _))))))))) rfl rfl rfl ?_
        refine ExD.take (i := 3) rfl (by kernel_rfl) (pureVal_ok rfl) ((List.Sublist.cons _ (List.Sublist.cons_cons _ (List.Sublist.cons_cons _ (List.Sublist.cons_cons _ (List.Sublist.cons_cons _ (List.Sublist.cons_cons _ (List.Sublist.cons_cons _ (List.nil_sublist _))))))))) rfl rfl rfl ?_
        refine ExD.take (i := 4) rfl (by kernel_rfl) (fr_load rfl rfl rfl rfl (CellO.blk (i := 5) rfl rfl)) ((List.Sublist.cons _ (List.Sublist.cons_cons _ (List.Sublist.cons_cons _ (List.Sublist.cons_cons _ (List.Sublist.cons_cons _ (List.Sublist.cons_cons _ (List.Sublist.cons_cons _ (List.nil_sublist _))))))))) rfl rfl rfl ?_
        refine ExD.take (i := 5) rfl (by kernel_rfl) (pureVal_ok rfl) ((List.Sublist.cons _ (List.Sublist.cons_cons _ (List.Sublist.cons_cons _ (List.Sublist.cons_cons _ (List.Sublist.cons_cons _ (List.Sublist.cons_cons _ (List.Sublist.cons_cons _ (List.nil_sublist _))))))))) rfl rfl rfl ?_
        refine ExD.take (i := 10) rfl (by kernel_rfl) (pureVal_ok rfl) ((List.Sublist.cons _ (List.Sublist.cons_cons _ (List.Sublist.cons_cons _ (List.Sublist.cons_cons _ (List.Sublist.cons_cons _ (List.Sublist.cons_cons _ (List.Sublist.cons_cons _ (List.nil_sublist _))))))))) rfl rfl rfl ?_
        refine ExD.op (i := 6) rfl (by kernel_rfl) rfl (op_mut rfl rfl rfl (c_pick code _ _ (by omega) (by assumption) _ x29.2.1 _ (by omega) 12 (by omega)) (perm_at (i := 0) rfl) (hcode) rfl rfl (fun x30 hx30 => ⟨(List.Sublist.cons _ (List.Sublist.cons_cons _ (List.Sublist.cons_cons _ (List.Sublist.cons_cons _ (List.Sublist.cons_cons _ (List.Sublist.cons_cons _ (List.Sublist.cons_cons _ (List.nil_sublist _)))))))), ?_⟩))
        have hpm := mul_small (a := (1 + x29.1)) (b := f.a + x30.1) (by omega) (by omega)
        refine ExD.take (i := 7) rfl (by kernel_rfl) (by first | exact fr_add64 rfl rfl rfl (by omega) | exact fr_add rfl rfl rfl) ((List.Sublist.cons _ (List.Sublist.cons_cons _ (List.Sublist.cons_cons _ (List.Sublist.cons_cons _ (List.Sublist.cons_cons _ (List.Sublist.cons_cons _ (List.Sublist.cons_cons _ (List.nil_sublist _))))))))) rfl rfl rfl ?_
        refine ExD.take (i := 8) rfl (by kernel_rfl) (by first | exact fr_mul64 rfl rfl rfl (by omega) | exact fr_mul rfl rfl rfl) ((List.Sublist.cons _ (List.Sublist.cons_cons _ (List.Sublist.cons_cons _ (List.Sublist.cons_cons _ (List.Sublist.cons_cons _ (List.Sublist.cons_cons _ (List.Sublist.cons_cons _ (List.nil_sublist _))))))))) rfl rfl rfl ?_
        refine ExD.take (i := 9) rfl (by kernel_rfl) (by first | exact fr_add64 rfl rfl rfl (by omega) | exact fr_add rfl rfl rfl) ((List.Sublist.cons _ (List.Sublist.cons_cons _ (List.Sublist.cons_cons _ (List.Sublist.cons_cons _ (List.Sublist.cons_cons _ (List.Sublist.cons_cons _ (List.Sublist.cons_cons _ (List.nil_sublist _))))))))) rfl rfl rfl ?_
        refine ExD.op (i := 11) rfl (by kernel_rfl) rfl (op_ret rfl rfl rfl (c_l04Mod _ _ (by omega) (by omega)) (fun _ _ => trivial) rfl rfl (fun x31 hx31 => ⟨(List.Sublist.cons _ (List.Sublist.cons_cons _ (List.Sublist.cons_cons _ (List.Sublist.cons_cons _ (List.Sublist.cons_cons _ (List.Sublist.cons_cons _ (List.Sublist.cons_cons _ (List.nil_sublist _)))))))), ?_⟩))
        refine ExD.take (i := 12) rfl (by kernel_rfl) (pureVal_ok rfl) ((List.Sublist.cons _ (List.Sublist.cons_cons _ (List.Sublist.cons_cons _ (List.Sublist.cons_cons _ (List.Sublist.cons_cons _ (List.Sublist.cons_cons _ (List.Sublist.cons_cons _ (List.nil_sublist _))))))))) rfl rfl rfl ?_
        refine ExD.last (i := 13) rfl (by kernel_rfl) (by kernel_rfl) rfl (op_storeC (i := 3) rfl rfl rfl rfl rfl rfl rfl rfl rfl rfl ?_)
        refine ExD.done (by kernel_rfl) ?_
        obtain ⟨rv, hrv⟩ : ∃ z : Int, ((q.p.b + (1 + x29.1) * (f.a + x30.1)) % 1000) = z := ⟨_, rfl⟩
        rw [hrv]
        have hrb : 0 ≤ rv ∧ rv < 1000 := by rw [← hrv]; exact ⟨Int.emod_nonneg _ (by omega), Int.emod_lt_of_pos _ (by omega)⟩
        refine Ex.regSeq (ExL.pures 1 rfl ?_)
        refine ExL.op rfl (op_mut rfl rfl rfl (c_one code _ _ (by omega) (by assumption) _ x30.2.1 _ (by omega) 8 (by omega)) (perm_at (i := 0) rfl) (hcode) rfl rfl (fun x32 hx32 => ?_))
        refine ExL.nil ?_
        refine Ex.cond rfl (fun hb33 => ?_) (fun hb33 => ?_)
        · refine Ex.region (ExL.pures 2 rfl ?_)
          refine ExL.op rfl (op_mut rfl rfl rfl (c_pick code _ _ (by omega) (by assumption) _ x32.2.1 _ (by omega) 1000 (by omega)) (perm_at (i := 0) rfl) (hcode) rfl rfl (fun x34 hx34 => ?_))
          refine ExL.pures 1 rfl ?_
          refine ExL.op rfl (op_storeC (i := 3) rfl rfl rfl rfl rfl rfl rfl rfl rfl rfl ?_)
          refine ExL.nil ?_
          refine Ex.region (ExL.pures 1 rfl ?_)
          refine ExL.free (by first | exact fr_sub64 rfl rfl rfl (by omega) | exact fr_sub rfl rfl rfl) rfl rfl rfl ?_
          refine ExL.pures 1 rfl ?_
          refine ExL.nil ?_
          refine Hand.mk (⟨q.l ++ [⟨q.p.a, q.p.b⟩], ⟨(q.p.a + (1 + x29.1)), x34.1⟩, x34.2.1, x34.2.2, q.k - 1, A27, cA27⟩ : DrS) 7 [3, 0, 4, 5, 6] ⟨(by rw [List.length_append]; rfl), rfl, trivial⟩ ⟨rfl, rfl, rfl, rfl, rfl, rfl, rfl, trivial⟩ (by rw [List.length_append, List.flatMap_append]; rfl) rfl (⟨hL.next rfl ⟨by dsimp only; omega, by dsimp only; omega⟩ ⟨by dsimp only; omega, by dsimp only; omega⟩ ⟨by dsimp only; omega, by dsimp only; omega⟩, by dsimp only; rw [List.length_append, List.length_singleton]; omega, by dsimp only; omega, by dsimp only; omega, by dsimp only; rw [List.length_append, List.length_singleton]; push_cast; omega⟩) (by dsimp only; omega)
        · refine Ex.skip ?_
          refine Ex.region (ExL.pures 1 rfl ?_)
          refine ExL.free (by first | exact fr_sub64 rfl rfl rfl (by omega) | exact fr_sub rfl rfl rfl) rfl rfl rfl ?_
          refine ExL.pures 1 rfl ?_
          refine ExL.nil ?_
          refine Hand.mk (⟨q.l ++ [⟨q.p.a, q.p.b⟩], ⟨(q.p.a + (1 + x29.1)), rv⟩, x32.2.1, x32.2.2, q.k - 1, A27, cA27⟩ : DrS) 7 [3, 0, 4, 5, 6] ⟨(by rw [List.length_append]; rfl), rfl, trivial⟩ ⟨rfl, rfl, rfl, rfl, rfl, rfl, rfl, trivial⟩ (by rw [List.length_append, List.flatMap_append]; rfl) rfl (⟨hL.next rfl ⟨by dsimp only; omega, by dsimp only; omega⟩ ⟨by dsimp only; omega, by dsimp only; omega⟩ ⟨by dsimp only; omega, by dsimp only; omega⟩, by dsimp only; rw [List.length_append, List.length_singleton]; omega, by dsimp only; omega, by dsimp only; omega, by dsimp only; rw [List.length_append, List.length_singleton]; push_cast; omega⟩) (by dsimp only; omega)
    · refine ExL.nil ?_
      refine Ex.cond_f rfl ?_
      refine Ex.exit ?_
      refine Ex.regSeq (ExL.pures 4 rfl ?_)
      refine ExL.nil ?_
      refine Ex.ret ?_
      refine MutQ.mk ((q.at_, q.sd), (((some ⟨r5, 0, none⟩), 3), [10, 10, 10]), ((q.A, q.c), q.l)) rfl (.tmp rfl (.tmp rfl .nil)) (rfl) 5 [1, 3, 2] (rfl) rfl (hL.dr hz9 hv9 hn9 (Nat.le_of_ble_eq_true rfl) (by omega) (by omega))
  · refine ExL.pures 1 rfl ?_
    refine ExL.nil ?_
    refine Ex.cond_f rfl ?_
    refine Ex.regSeq (ExL.pures 0 rfl ?_)
    refine ExL.eql rfl rfl rfl rfl rfl rfl (fun h35 => ?_) (fun h35 => ?_)
    · refine ExL.pures 1 rfl ?_
      refine ExL.nil ?_
      refine Ex.cond_t rfl ?_
      refine Ex.region (ExL.pures 0 rfl ?_)
      refine ExL.op rfl (op_buildSlice (sz := 1) rfl rfl rfl rfl rfl rfl rfl rfl (by decide) rfl rfl rfl (fun r36 => ?_))
      refine ExL.pures 1 rfl ?_
      refine ExL.nil ?_
      obtain ⟨hn9, hv9, hz9⟩ := lg_c
      refine Ex.regSeq (ExL.pures 1 rfl ?_)
      refine ExL.op rfl (op_ret rfl rfl rfl (c_l01Size [6, 4, 3] (by assumption) _ _ (by first | assumption | omega | (unfold maxLen; omega) | decide)) (Reads.get (Reads.row (i := 0) rfl)) rfl rfl (fun x37 hx37 => ?_))
      refine ExL.pures 1 rfl ?_
      refine ExL.nil ?_
      rw [hz9]
      refine Ex.regSeq (ExL.pures 0 rfl ?_)
      refine ExL.op rfl (op_buildSlice (sz := 2) rfl rfl rfl rfl rfl rfl rfl rfl (by decide) rfl rfl rfl (fun r38 => ?_))
      refine ExL.pures 1 rfl ?_
      refine ExL.nil ?_
      refine Ex.regSeq (ExL.pures 1 rfl ?_)
      refine ExL.op rfl (op_mut rfl rfl rfl (c_pick code _ _ (by omega) (by assumption) _ x3.2.1 _ (by omega) 5 (by omega)) (perm_at (i := 2) rfl) (hcode) rfl rfl (fun x39 hx39 => ?_))
      refine ExL.pures 2 rfl ?_
      refine ExL.op rfl (op_mut rfl rfl rfl (c_pick code _ _ (by omega) (by assumption) _ x39.2.1 _ (by omega) 72 (by omega)) (perm_at (i := 0) rfl) (hcode) rfl rfl (fun x40 hx40 => ?_))
      refine ExL.free (fr_build rfl rfl rfl rfl) rfl rfl rfl ?_
      refine ExL.op rfl (op_alloc rfl rfl rfl rfl rfl (fun b41 => ?_))
      refine ExL.op rfl (op_storeC (i := 0) rfl rfl rfl rfl rfl rfl rfl rfl rfl rfl ?_)
      refine ExL.nil ?_
      refine Ex.seq ?_
      refine Ex.regSeq (ExL.pures 1 rfl ?_)
      refine ExL.op rfl (op_mut rfl rfl rfl (c_pick code _ _ (by omega) (by assumption) _ x40.2.1 _ (by omega) 9 (by omega)) (perm_at (i := 1) rfl) (hcode) rfl rfl (fun x42 hx42 => ?_))
      refine ExL.pures 1 rfl ?_
      refine ExL.nil ?_
      refine Ex.block ?_
      refine Ex.loopK (X := DrS) (fun q => [(8, .slice q.A q.l.length q.c), (10, .int .i64 q.k)]) (fun q => [.blk b41 (encP q.p) 85, .blk b [.slice Ac code.length cc, .int .i64 q.at_, .int .u64 q.sd] 113, .row (.slice q.A q.l.length q.c) 85 2 q.l.length (q.l.flatMap encP)]) (fun q => LgP 72 q.l q.p ∧ (q.l.length : Int) + q.k ≤ 8 ∧ 0 ≤ q.k ∧ at_ ≤ q.at_ ∧ q.at_ ≤ at_ + 8 + 12 * (q.l.length : Int)) (fun q => q.k.toNat) (⟨[], ⟨x39.1, x40.1⟩, x42.2.1, x42.2.2, x42.1, (some ⟨r38, 0, none⟩), 0⟩ : DrS) [(0, _), (3, _), (4, _), (5, _), (6, _), (7, _), (9, _)] (_ :: _ :: F) 6 [1, 0, 2, 3, 5] ⟨rfl, rfl, trivial⟩ ⟨rfl, rfl, rfl, rfl, rfl, rfl, rfl, trivial⟩ (rfl) rfl ⟨LgP.nil ⟨by dsimp only; omega, by dsimp only; omega⟩ ⟨by dsimp only; omega, by dsimp only; omega⟩, by dsimp only [List.length_nil]; omega, by dsimp only; omega, by dsimp only; omega, by dsimp only [List.length_nil]; omega⟩ (fun q hI => ?_)
      have hI : LgP 72 q.l q.p ∧ (q.l.length : Int) + q.k ≤ 8 ∧ 0 ≤ q.k ∧ at_ ≤ q.at_ ∧ q.at_ ≤ at_ + 8 + 12 * (q.l.length : Int) := hI
      obtain ⟨hL, hlk, hk0, hat1, hat2⟩ := hI
      have hLa := hL.ra
      have hLb := hL.rb
      refine Ex.seq ?_
      refine Ex.regSeq (ExL.pures 1 rfl ?_)
      refine ExL.gtr rfl rfl rfl rfl rfl rfl (fun h43 => ?_) (fun h43 => ?_)
      · refine ExL.nil ?_
        refine Ex.cond_t rfl ?_
        refine Ex.skip ?_
        refine Ex.seq ?_
        refine Ex.block ?_
        refine Ex.regSeq (ExL.pures 0 rfl ?_)
        refine ExL.free (fr_loadN rfl rfl rfl rfl rfl (SegO.whole (i := 0) rfl)) rfl rfl rfl ?_
        refine ExL.op rfl (op_alloc rfl rfl rfl rfl rfl (fun b44 => ?_))
        refine ExL.op rfl (op_storeC (i := 0) rfl rfl rfl rfl rfl rfl rfl rfl rfl rfl ?_)
        refine ExL.nil ?_
        refine Ex.seq ?_
        refine Ex.regSeq (ExL.pures 1 rfl ?_)
        refine ExL.op rfl (op_mut rfl rfl rfl (c_one code _ _ (by omega) (by assumption) _ q.at_ _ (by omega) 6 (by omega)) (perm_at (i := 2) rfl) (hcode) rfl rfl (fun x45 hx45 => ?_))
        refine ExL.nil ?_
        refine Ex.cond rfl (fun hb46 => ?_) (fun hb46 => ?_)
        · refine Ex.region (ExL.pures 2 rfl ?_)
          refine ExL.op rfl (op_mut rfl rfl rfl (c_pick code _ _ (by omega) (by assumption) _ x45.2.1 _ (by omega) 72 (by omega)) (perm_at (i := 0) rfl) (hcode) rfl rfl (fun x47 hx47 => ?_))
          refine ExL.pures 1 rfl ?_
          refine ExL.op rfl (op_storeC (i := 1) rfl rfl rfl rfl rfl rfl rfl rfl rfl rfl ?_)
          refine ExL.nil ?_
          refine Ex.regSeq (ExL.pures 1 rfl ?_)
          refine ExL.free (fr_loadN rfl rfl rfl rfl rfl (SegO.whole (i := 1) rfl)) rfl rfl rfl ?_
          refine ExL.op rfl (op_buildSlice (sz := 2) rfl rfl rfl rfl rfl rfl rfl rfl (by decide) rfl rfl rfl (fun r48 => ?_))
          refine ExL.op rfl (op_append (sz := 2) (bytes := 16) (i := 4) rfl rfl rfl rfl (Reads.row (i := 0) rfl) rfl (fun e => nomatch e) rfl rfl rfl rfl (by constructor <;> first | omega | (unfold maxLen; omega)) rfl rfl (fun A49 cA49 => ?_))
          refine ExL.pures 1 rfl ?_
          refine ExL.nil ?_
          refine Ex.regSeq (ExL.pures 1 rfl ?_)
          refine ExL.op rfl (op_mut rfl rfl rfl (c_pick code _ _ (by omega) (by assumption) _ x47.2.1 _ (by omega) 4 (by omega)) (perm_at (i := 1) rfl) (hcode) rfl rfl (fun x51 hx51 => ?_))
          refine ExL.free (by first | exact fr_add64 rfl rfl rfl (by omega) | exact fr_add rfl rfl rfl) rfl rfl rfl ?_
          refine ExL.pures 1 rfl ?_
          refine ExL.nil ?_
          refine Ex.regSeq (ExL.pures 1 rfl ?_)
          refine ExL.free (fr_load rfl rfl rfl rfl (CellO.blk (i := 3) rfl rfl)) rfl rfl rfl ?_
          refine ExL.pures 1 rfl ?_
          refine ExL.free (by first | exact fr_add64 rfl rfl rfl (by omega) | exact fr_add rfl rfl rfl) rfl rfl rfl ?_
          refine ExL.pures 1 rfl ?_
          refine ExL.op rfl (op_storeC (i := 3) rfl rfl rfl rfl rfl rfl rfl rfl rfl rfl ?_)
          refine ExL.nil ?_
          refine Ex.drawSeqI [1, 2, 3, 4, 5, 6] rfl rfl ?_
          refine ExD.take (i := 0) rfl (by kernel_rfl) (pureVal_ok rfl) ((List.Sublist.cons _ (List.Sublist.cons_cons _ (List.Sublist.cons_cons _ (List.Sublist.cons_cons _ (List.Sublist.cons_cons _ (List.Sublist.cons_cons _ (List.Sublist.cons_cons _ (List.nil_sublist _))))))))) rfl rfl rfl ?_
          refine ExD.take (i := 1) rfl (by kernel_rfl) (fr_load rfl rfl rfl rfl (CellO.blk (i := 2) rfl rfl)) ((List.Sublist.cons _ (List.Sublist.cons_cons _ (List.Sublist.cons_cons _ (List.Sublist.cons_cons _ (List.Sublist.cons_cons _ (List.Sublist.cons_cons _ (List.Sublist.cons_cons _ (List.nil_sublist _))))))))) rfl rfl rfl ?_
          refine ExD.take (i := 2) rfl (by kernel_rfl) (pureVal_ok rfl) ((List.Sublist.cons _ (List.Sublist.cons_cons _ (List.Sublist.cons_cons _ (List.Sublist.cons_cons _ (List.Sublist.cons_cons _ (List.Sublist.cons_cons _ (List.Sublist.cons_cons _ (List.nil_sublist _))))))))) rfl rfl rfl ?_
          refine ExD.take (i := 3) rfl (by kernel_rfl) (pureVal_ok rfl) ((List.Sublist.cons _ (List.Sublist.cons_cons _ (List.Sublist.cons_cons _ (List.Sublist.cons_cons _ (List.Sublist.cons_cons _ (List.Sublist.cons_cons _ (List.Sublist.cons_cons _ (List.nil_sublist _))))))))) rfl rfl rfl ?_
          refine ExD.take (i := 4) rfl (by kernel_rfl) (fr_load rfl rfl rfl rfl (CellO.blk (i := 5) rfl rfl)) ((List.Sublist.cons _ (List.Sublist.cons_cons _ (List.Sublist.cons_cons _ (List.Sublist.cons_cons _ (List.Sublist.cons_cons _ (List.Sublist.cons_cons _ (List.Sublist.cons_cons _ (List.nil_sublist _))))))))) rfl rfl rfl ?_
          refine ExD.take (i := 5) rfl (by kernel_rfl) (pureVal_ok rfl) ((List.Sublist.cons _ (List.Sublist.cons_cons _ (List.Sublist.cons_cons _ (List.Sublist.cons_cons _ (List.Sublist.cons_cons _ (List.Sublist.cons_cons _ (List.Sublist.cons_cons _ (List.nil_sublist _))))))))) rfl rfl rfl ?_
          refine ExD.take (i := 10) rfl (by kernel_rfl) (pureVal_ok rfl) ((List.Sublist.cons _ (List.Sublist.cons_cons _ (List.Sublist.cons_cons _ (List.Sublist.cons_cons _ (List.Sublist.cons_cons _ (List.Sublist.cons_cons _ (List.Sublist.cons_cons _ (List.nil_sublist _))))))))) rfl rfl rfl ?_
          refine ExD.op (i := 6) rfl (by kernel_rfl) rfl (op_mut rfl rfl rfl (c_pick code _ _ (by omega) (by assumption) _ x51.2.1 _ (by omega) 12 (by omega)) (perm_at (i := 0) rfl) (hcode) rfl rfl (fun x52 hx52 => ⟨(List.Sublist.cons _ (List.Sublist.cons_cons _ (List.Sublist.cons_cons _ (List.Sublist.cons_cons _ (List.Sublist.cons_cons _ (List.Sublist.cons_cons _ (List.Sublist.cons_cons _ (List.nil_sublist _)))))))), ?_⟩))
          have hpm := mul_small (a := (1 + x51.1)) (b := f.a + x52.1) (by omega) (by omega)
          refine ExD.take (i := 7) rfl (by kernel_rfl) (by first | exact fr_add64 rfl rfl rfl (by omega) | exact fr_add rfl rfl rfl) ((List.Sublist.cons _ (List.Sublist.cons_cons _ (List.Sublist.cons_cons _ (List.Sublist.cons_cons _ (List.Sublist.cons_cons _ (List.Sublist.cons_cons _ (List.Sublist.cons_cons _ (List.nil_sublist _))))))))) rfl rfl rfl ?_
          refine ExD.take (i := 8) rfl (by kernel_rfl) (by first | exact fr_mul64 rfl rfl rfl (by omega) | exact fr_mul rfl rfl rfl) ((List.Sublist.cons _ (List.Sublist.cons_cons _ (List.Sublist.cons_cons _ (List.Sublist.cons_cons _ (List.Sublist.cons_cons _ (List.Sublist.cons_cons _ (List.Sublist.cons_cons _ (List.nil_sublist _))))))))) rfl rfl rfl ?_
          refine ExD.take (i := 9) rfl (by kernel_rfl) (by first | exact fr_add64 rfl rfl rfl (by omega) | exact fr_add rfl rfl rfl) ((List.Sublist.cons _ (List.Sublist.cons_cons _ (List.Sublist.cons_cons _ (List.Sublist.cons_cons _ (List.Sublist.cons_cons _ (List.Sublist.cons_cons _ (List.Sublist.cons_cons _ (List.nil_sublist _))))))))) rfl rfl rfl ?_
          refine ExD.op (i := 11) rfl (by kernel_rfl) rfl (op_ret rfl rfl rfl (c_l04Mod _ _ (by omega) (by omega)) (fun _ _ => trivial) rfl rfl (fun x53 hx53 => ⟨(List.Sublist.cons _ (List.Sublist.cons_cons _ (List.Sublist.cons_cons _ (List.Sublist.cons_cons _ (List.Sublist.cons_cons _ (List.Sublist.cons_cons _ (List.Sublist.cons_cons _ (List.nil_sublist _)))))))), ?_⟩))
          refine ExD.take (i := 12) rfl (by kernel_rfl) (pureVal_ok rfl) ((List.Sublist.cons _ (List.Sublist.cons_cons _ (List.Sublist.cons_cons _ (List.Sublist.cons_cons _ (List.Sublist.cons_cons _ (List.Sublist.cons_cons _ (List.Sublist.cons_cons _ (List.nil_sublist _))))))))) rfl rfl rfl ?_
          refine ExD.last (i := 13) rfl (by kernel_rfl) (by kernel_rfl) rfl (op_storeC (i := 3) rfl rfl rfl rfl rfl rfl rfl rfl rfl rfl ?_)
          refine ExD.done (by kernel_rfl) ?_
          obtain ⟨rv, hrv⟩ : ∃ z : Int, ((q.p.b + (1 + x51.1) * (f.a + x52.1)) % 72) = z := ⟨_, rfl⟩
          rw [hrv]
          have hrb : 0 ≤ rv ∧ rv < 72 := by rw [← hrv]; exact ⟨Int.emod_nonneg _ (by omega), Int.emod_lt_of_pos _ (by omega)⟩
          refine Ex.regSeq (ExL.pures 1 rfl ?_)
          refine ExL.op rfl (op_mut rfl rfl rfl (c_one code _ _ (by omega) (by assumption) _ x52.2.1 _ (by omega) 8 (by omega)) (perm_at (i := 0) rfl) (hcode) rfl rfl (fun x54 hx54 => ?_))
          refine ExL.nil ?_
          refine Ex.cond rfl (fun hb55 => ?_) (fun hb55 => ?_)
          · refine Ex.region (ExL.pures 2 rfl ?_)
            refine ExL.op rfl (op_mut rfl rfl rfl (c_pick code _ _ (by omega) (by assumption) _ x54.2.1 _ (by omega) 72 (by omega)) (perm_at (i := 0) rfl) (hcode) rfl rfl (fun x56 hx56 => ?_))
            refine ExL.pures 1 rfl ?_
            refine ExL.op rfl (op_storeC (i := 3) rfl rfl rfl rfl rfl rfl rfl rfl rfl rfl ?_)
            refine ExL.nil ?_
            refine Ex.region (ExL.pures 1 rfl ?_)
            refine ExL.free (by first | exact fr_sub64 rfl rfl rfl (by omega) | exact fr_sub rfl rfl rfl) rfl rfl rfl ?_
            refine ExL.pures 1 rfl ?_
            refine ExL.nil ?_
            refine Hand.mk (⟨q.l ++ [⟨q.p.a, x47.1⟩], ⟨(q.p.a + (1 + x51.1)), x56.1⟩, x56.2.1, x56.2.2, q.k - 1, A49, cA49⟩ : DrS) 7 [3, 0, 4, 5, 6] ⟨(by rw [List.length_append]; rfl), rfl, trivial⟩ ⟨rfl, rfl, rfl, rfl, rfl, rfl, rfl, trivial⟩ (by rw [List.length_append, List.flatMap_append]; rfl) rfl (⟨hL.next rfl ⟨by dsimp only; omega, by dsimp only; omega⟩ ⟨by dsimp only; omega, by dsimp only; omega⟩ ⟨by dsimp only; omega, by dsimp only; omega⟩, by dsimp only; rw [List.length_append, List.length_singleton]; omega, by dsimp only; omega, by dsimp only; omega, by dsimp only; rw [List.length_append, List.length_singleton]; push_cast; omega⟩) (by dsimp only; omega)
          · refine Ex.skip ?_
            refine Ex.region (ExL.pures 1 rfl ?_)
            refine ExL.free (by first | exact fr_sub64 rfl rfl rfl (by omega) | exact fr_sub rfl rfl rfl) rfl rfl rfl ?_
            refine ExL.pures 1 rfl ?_
            refine ExL.nil ?_
            refine Hand.mk (⟨q.l ++ [⟨q.p.a, x47.1⟩], ⟨(q.p.a + (1 + x51.1)), rv⟩, x54.2.1, x54.2.2, q.k - 1, A49, cA49⟩ : DrS) 7 [3, 0, 4, 5, 6] ⟨(by rw [List.length_append]; rfl), rfl, trivial⟩ ⟨rfl, rfl, rfl, rfl, rfl, rfl, rfl, trivial⟩ (by rw [List.length_append, List.flatMap_append]; rfl) rfl (⟨hL.next rfl ⟨by dsimp only; omega, by dsimp only; omega⟩ ⟨by dsimp only; omega, by dsimp only; omega⟩ ⟨by dsimp only; omega, by dsimp only; omega⟩, by dsimp only; rw [List.length_append, List.length_singleton]; omega, by dsimp only; omega, by dsimp only; omega, by dsimp only; rw [List.length_append, List.length_singleton]; push_cast; omega⟩) (by dsimp only; omega)
        · refine Ex.skip ?_
          refine Ex.regSeq (ExL.pures 1 rfl ?_)
          refine ExL.free (fr_loadN rfl rfl rfl rfl rfl (SegO.whole (i := 1) rfl)) rfl rfl rfl ?_
          refine ExL.op rfl (op_buildSlice (sz := 2) rfl rfl rfl rfl rfl rfl rfl rfl (by decide) rfl rfl rfl (fun r57 => ?_))
          refine ExL.op rfl (op_append (sz := 2) (bytes := 16) (i := 4) rfl rfl rfl rfl (Reads.row (i := 0) rfl) rfl (fun e => nomatch e) rfl rfl rfl rfl (by constructor <;> first | omega | (unfold maxLen; omega)) rfl rfl (fun A58 cA58 => ?_))
          refine ExL.pures 1 rfl ?_
          refine ExL.nil ?_
          refine Ex.regSeq (ExL.pures 1 rfl ?_)
          refine ExL.op rfl (op_mut rfl rfl rfl (c_pick code _ _ (by omega) (by assumption) _ x45.2.1 _ (by omega) 4 (by omega)) (perm_at (i := 1) rfl) (hcode) rfl rfl (fun x60 hx60 => ?_))
          refine ExL.free (by first | exact fr_add64 rfl rfl rfl (by omega) | exact fr_add rfl rfl rfl) rfl rfl rfl ?_
          refine ExL.pures 1 rfl ?_
          refine ExL.nil ?_
          refine Ex.regSeq (ExL.pures 1 rfl ?_)
          refine ExL.free (fr_load rfl rfl rfl rfl (CellO.blk (i := 3) rfl rfl)) rfl rfl rfl ?_
          refine ExL.pures 1 rfl ?_
          refine ExL.free (by first | exact fr_add64 rfl rfl rfl (by omega) | exact fr_add rfl rfl rfl) rfl rfl rfl ?_
          refine ExL.pures 1 rfl ?_
          refine ExL.op rfl (op_storeC (i := 3) rfl rfl rfl rfl rfl rfl rfl rfl rfl rfl ?_)
          refine ExL.nil ?_
          refine Ex.drawSeqI [1, 2, 3, 4, 5, 6] rfl rfl ?_
          refine ExD.take (i := 0) rfl (by kernel_rfl) (pureVal_ok rfl) ((List.Sublist.cons _ (List.Sublist.cons_cons _ (List.Sublist.cons_cons _ (List.Sublist.cons_cons _ (List.Sublist.cons_cons _ (List.Sublist.cons_cons _ (List.Sublist.cons_cons _ (List.nil_sublist _))))))))) rfl rfl rfl ?_
          refine ExD.take (i := 1) rfl (by kernel_rfl) (fr_load rfl rfl rfl rfl (CellO.blk (i := 2) rfl rfl)) ((List.Sublist.cons _ (List.Sublist.cons_cons _ (List.Sublist.cons_cons _ (List.Sublist.cons_cons _ (List.Sublist.cons_cons _ (List.Sublist.cons_cons _ (List.Sublist.cons_cons _ (List.nil_sublist _))))))))) rfl rfl rfl ?_
          refine ExD.take (i := 2) rfl (by kernel_rfl) (pureVal_ok rfl) ((List.Sublist.cons _ (List.Sublist.cons_cons _ (List.Sublist.cons_cons _ (List.Sublist.cons_cons _ (List.Sublist.cons_cons _ (List.Sublist.cons_cons _ (List.Sublist.cons_cons _ (List.nil_sublist _))))))))) rfl rfl rfl ?_
          refine ExD.take (i := 3) rfl (by kernel_rfl) (pureVal_ok rfl) ((List.Sublist.cons _ (List.Sublist.cons_cons _ (List.Sublist.cons_cons _ (List.Sublist.cons_cons _ (List.Sublist.cons_cons _ (List.Sublist.cons_cons _ (List.Sublist.cons_cons _ (List.nil_sublist _))))))))) rfl rfl rfl ?_
          refine ExD.take (i := 4) rfl (by kernel_rfl) (fr_load rfl rfl rfl rfl (CellO.blk (i := 5) rfl rfl)) ((List.Sublist.cons _ (List.Sublist.cons_cons _ (List.Sublist.cons_cons _ (List.Sublist.cons_cons _ (List.Sublist.cons_cons _ (List.Sublist.cons_cons _ (List.Sublist.cons_cons _ (List.nil_sublist _))))))))) rfl rfl rfl ?_
          refine ExD.take (i := 5) rfl (by kernel_rfl) (pureVal_ok rfl) ((List.Sublist.cons _ (List.Sublist.cons_cons _ (List.Sublist.cons_cons _ (List.Sublist.cons_cons _ (List.Sublist.cons_cons _ (List.Sublist.cons_cons _ (List.Sublist.cons_cons _ (List.nil_sublist _))))))))) rfl rfl rfl ?_
          refine ExD.take (i := 10) rfl (by kernel_rfl) (pureVal_ok rfl) ((List.Sublist.cons _ (List.Sublist.cons_cons _ (List.Sublist.cons_cons _ (List.Sublist.cons_cons _ (List.Sublist.cons_cons _ (List.Sublist.cons_cons _ (List.Sublist.cons_cons _ (List.nil_sublist _))))))))) rfl rfl rfl ?_
          refine ExD.op (i := 6) rfl (by kernel_rfl) rfl (op_mut rfl rfl rfl (c_pick code _ _ (by omega) (by assumption) _ x60.2.1 _ (by omega) 12 (by omega)) (perm_at (i := 0) rfl) (hcode) rfl rfl (fun x61 hx61 => ⟨(List.Sublist.cons _ (List.Sublist.cons_cons _ (List.Sublist.cons_cons _ (List.Sublist.cons_cons _ (List.Sublist.cons_cons _ (List.Sublist.cons_cons _ (List.Sublist.cons_cons _ (List.nil_sublist _)))))))), ?_⟩))
          have hpm := mul_small (a := (1 + x60.1)) (b := f.a + x61.1) (by omega) (by omega)
          refine ExD.take (i := 7) rfl (by kernel_rfl) (by first | exact fr_add64 rfl rfl rfl (by omega) | exact fr_add rfl rfl rfl) ((List.Sublist.cons _ (List.Sublist.cons_cons _ (List.Sublist.cons_cons _ (List.Sublist.cons_cons _ (List.Sublist.cons_cons _ (List.Sublist.cons_cons _ (List.Sublist.cons_cons _ (List.nil_sublist _))))))))) rfl rfl rfl ?_
          refine ExD.take (i := 8) rfl (by kernel_rfl) (by first | exact fr_mul64 rfl rfl rfl (by omega) | exact fr_mul rfl rfl rfl) ((List.Sublist.cons _ (List.Sublist.cons_cons _ (List.Sublist.cons_cons _ (List.Sublist.cons_cons _ (List.Sublist.cons_cons _ (List.Sublist.cons_cons _ (List.Sublist.cons_cons _ (List.nil_sublist _))))))))) rfl rfl rfl ?_
          refine ExD.take (i := 9) rfl (by kernel_rfl) (by first | exact fr_add64 rfl rfl rfl (by omega) | exact fr_add rfl rfl rfl) ((List.Sublist.cons _ (List.Sublist.cons_cons _ (List.Sublist.cons_cons _ (List.Sublist.cons_cons _ (List.Sublist.cons_cons _ (List.Sublist.cons_cons _ (List.Sublist.cons_cons _ (List.nil_sublist _))))))))) rfl rfl rfl ?_
          refine ExD.op (i := 11) rfl (by kernel_rfl) rfl (op_ret rfl rfl rfl (c_l04Mod _ _ (by omega) (by omega)) (fun _ _ => trivial) rfl rfl (fun x62 hx62 => ⟨(List.Sublist.cons _ (List.Sublist.cons_cons _ (List.Sublist.cons_cons _ (List.Sublist.cons_cons _ (List.Sublist.cons_cons _ (List.Sublist.cons_cons _ (List.Sublist.cons_cons _ (List.nil_sublist _)))))))), ?_⟩))
          refine ExD.take (i := 12) rfl (by kernel_rfl) (pureVal_ok rfl) ((List.Sublist.cons _ (List.Sublist.cons_cons _ (List.Sublist.cons_cons _ (List.Sublist.cons_cons _ (List.Sublist.cons_cons _ (List.Sublist.cons_cons _ (List.Sublist.cons_cons _ (List.nil_sublist _))))))))) rfl rfl rfl ?_
          refine ExD.last (i := 13) rfl (by kernel_rfl) (by kernel_rfl) rfl (op_storeC (i := 3) rfl rfl rfl rfl rfl rfl rfl rfl rfl rfl ?_)
          refine ExD.done (by kernel_rfl) ?_
          obtain ⟨rv, hrv⟩ : ∃ z : Int, ((q.p.b + (1 + x60.1) * (f.a + x61.1)) % 72) = z := ⟨_, rfl⟩
          rw [hrv]
          have hrb : 0 ≤ rv ∧ rv < 72 := by rw [← hrv]; exact ⟨Int.emod_nonneg _ (by omega), Int.emod_lt_of_pos _ (by omega)⟩
          refine Ex.regSeq (ExL.pures 1 rfl ?_)
          refine ExL.op rfl (op_mut rfl rfl rfl (c_one code _ _ (by omega) (by assumption) _ x61.2.1 _ (by omega) 8 (by omega)) (perm_at (i := 0) rfl) (hcode) rfl rfl (fun x63 hx63 => ?_))
          refine ExL.nil ?_
          refine Ex.cond rfl (fun hb64 => ?_) (fun hb64 => ?_)
          · refine Ex.region (ExL.pures 2 rfl ?_)
            refine ExL.op rfl (op_mut rfl rfl rfl (c_pick code _ _ (by omega) (by assumption) _ x63.2.1 _ (by omega) 72 (by omega)) (perm_at (i := 0) rfl) (hcode) rfl rfl (fun x65 hx65 => ?_))
            refine ExL.pures 1 rfl ?_
            refine ExL.op rfl (op_storeC (i := 3) rfl rfl rfl rfl rfl rfl rfl rfl rfl rfl ?_)
            refine ExL.nil ?_
            refine Ex.region (ExL.pures 1 rfl ?_)
            refine ExL.free (by first | exact fr_sub64 rfl rfl rfl (by omega) | exact fr_sub rfl rfl rfl) rfl rfl rfl ?_
            refine ExL.pures 1 rfl ?_
            refine ExL.nil ?_
            refine Hand.mk (⟨q.l ++ [⟨q.p.a, q.p.b⟩], ⟨(q.p.a + (1 + x60.1)), x65.1⟩, x65.2.1, x65.2.2, q.k - 1, A58, cA58⟩ : DrS) 7 [3, 0, 4, 5, 6] ⟨(by rw [List.length_append]; rfl), rfl, trivial⟩ ⟨rfl, rfl, rfl, rfl, rfl, rfl, rfl, trivial⟩ (by rw [List.length_append, List.flatMap_append]; rfl) rfl (⟨hL.next rfl ⟨by dsimp only; omega, by dsimp only; omega⟩ ⟨by dsimp only; omega, by dsimp only; omega⟩ ⟨by dsimp only; omega, by dsimp only; omega⟩, by dsimp only; rw [List.length_append, List.length_singleton]; omega, by dsimp only; omega, by dsimp only; omega, by dsimp only; rw [List.length_append, List.length_singleton]; push_cast; omega⟩) (by dsimp only; omega)
          · refine Ex.skip ?_
            refine Ex.region (ExL.pures 1 rfl ?_)
            refine ExL.free (by first | exact fr_sub64 rfl rfl rfl (by omega) | exact fr_sub rfl rfl rfl) rfl rfl rfl ?_
            refine ExL.pures 1 rfl ?_
            refine ExL.nil ?_
            refine Hand.mk (⟨q.l ++ [⟨q.p.a, q.p.b⟩], ⟨(q.p.a + (1 + x60.1)), rv⟩, x63.2.1, x63.2.2, q.k - 1, A58, cA58⟩ : DrS) 7 [3, 0, 4, 5, 6] ⟨(by rw [List.length_append]; rfl), rfl, trivial⟩ ⟨rfl, rfl, rfl, rfl, rfl, rfl, rfl, trivial⟩ (by rw [List.length_append, List.flatMap_append]; rfl) rfl (⟨hL.next rfl ⟨by dsimp only; omega, by dsimp only; omega⟩ ⟨by dsimp only; omega, by dsimp only; omega⟩ ⟨by dsimp only; omega, by dsimp only; omega⟩, by dsimp only; rw [List.length_append, List.length_singleton]; omega, by dsimp only; omega, by dsimp only; omega, by dsimp only; rw [List.length_append, List.length_singleton]; push_cast; omega⟩) (by dsimp only; omega)
      · refine ExL.nil ?_
        refine Ex.cond_f rfl ?_
        refine Ex.exit ?_
        refine Ex.regSeq (ExL.pures 4 rfl ?_)
        refine ExL.nil ?_
        refine Ex.ret ?_
        refine MutQ.mk ((q.at_, q.sd), (((some ⟨r36, 0, none⟩), 3), [6, 4, 3]), ((q.A, q.c), q.l)) rfl (.tmp rfl (.tmp rfl .nil)) (rfl) 5 [1, 3, 2] (rfl) rfl (hL.dr hz9 hv9 hn9 (Nat.le_of_ble_eq_true rfl) (by omega) (by omega))
    · refine ExL.pures 1 rfl ?_
      refine ExL.nil ?_
      refine Ex.cond_f rfl ?_
      refine Ex.skip ?_
      obtain ⟨hn9, hv9, hz9⟩ := lg_a
      refine Ex.regSeq (ExL.pures 1 rfl ?_)
      refine ExL.op rfl (op_ret rfl rfl rfl (c_l01Size [10, 10] (by assumption) _ _ (by first | assumption | omega | (unfold maxLen; omega) | decide)) (Reads.get (Reads.row (i := 1) rfl)) rfl rfl (fun x66 hx66 => ?_))
      refine ExL.pures 1 rfl ?_
      refine ExL.nil ?_
      rw [hz9]
      refine Ex.regSeq (ExL.pures 0 rfl ?_)
      refine ExL.op rfl (op_buildSlice (sz := 2) rfl rfl rfl rfl rfl rfl rfl rfl (by decide) rfl rfl rfl (fun r67 => ?_))
      refine ExL.pures 1 rfl ?_
      refine ExL.nil ?_
      refine Ex.regSeq (ExL.pures 1 rfl ?_)
      refine ExL.op rfl (op_mut rfl rfl rfl (c_pick code _ _ (by omega) (by assumption) _ x3.2.1 _ (by omega) 5 (by omega)) (perm_at (i := 1) rfl) (hcode) rfl rfl (fun x68 hx68 => ?_))
      refine ExL.pures 2 rfl ?_
      refine ExL.op rfl (op_mut rfl rfl rfl (c_pick code _ _ (by omega) (by assumption) _ x68.2.1 _ (by omega) 100 (by omega)) (perm_at (i := 0) rfl) (hcode) rfl rfl (fun x69 hx69 => ?_))
      refine ExL.free (fr_build rfl rfl rfl rfl) rfl rfl rfl ?_
      refine ExL.op rfl (op_alloc rfl rfl rfl rfl rfl (fun b70 => ?_))
      refine ExL.op rfl (op_storeC (i := 0) rfl rfl rfl rfl rfl rfl rfl rfl rfl rfl ?_)
      refine ExL.nil ?_
      refine Ex.seq ?_
      refine Ex.regSeq (ExL.pures 1 rfl ?_)
      refine ExL.op rfl (op_mut rfl rfl rfl (c_pick code _ _ (by omega) (by assumption) _ x69.2.1 _ (by omega) 9 (by omega)) (perm_at (i := 1) rfl) (hcode) rfl rfl (fun x71 hx71 => ?_))
      refine ExL.pures 1 rfl ?_
      refine ExL.nil ?_
      refine Ex.block ?_
      refine Ex.loopK (X := DrS) (fun q => [(8, .slice q.A q.l.length q.c), (10, .int .i64 q.k)]) (fun q => [.blk b70 (encP q.p) 85, .blk b [.slice Ac code.length cc, .int .i64 q.at_, .int .u64 q.sd] 113, .row (.slice q.A q.l.length q.c) 85 2 q.l.length (q.l.flatMap encP)]) (fun q => LgP 100 q.l q.p ∧ (q.l.length : Int) + q.k ≤ 8 ∧ 0 ≤ q.k ∧ at_ ≤ q.at_ ∧ q.at_ ≤ at_ + 8 + 12 * (q.l.length : Int)) (fun q => q.k.toNat) (⟨[], ⟨x68.1, x69.1⟩, x71.2.1, x71.2.2, x71.1, (some ⟨r67, 0, none⟩), 0⟩ : DrS) [(0, _), (3, _), (4, _), (5, _), (6, _), (7, _), (9, _)] (_ :: _ :: F) 5 [1, 0, 2, 3, 4] ⟨rfl, rfl, trivial⟩ ⟨rfl, rfl, rfl, rfl, rfl, rfl, rfl, trivial⟩ (rfl) rfl ⟨LgP.nil ⟨by dsimp only; omega, by dsimp only; omega⟩ ⟨by dsimp only; omega, by dsimp only; omega⟩, by dsimp only [List.length_nil]; omega, by dsimp only; omega, by dsimp only; omega, by dsimp only [List.length_nil]; omega⟩ (fun q hI => ?_)
      have hI : LgP 100 q.l q.p ∧ (q.l.length : Int) + q.k ≤ 8 ∧ 0 ≤ q.k ∧ at_ ≤ q.at_ ∧ q.at_ ≤ at_ + 8 + 12 * (q.l.length : Int) := hI
      obtain ⟨hL, hlk, hk0, hat1, hat2⟩ := hI
      have hLa := hL.ra
      have hLb := hL.rb
      refine Ex.seq ?_
      refine Ex.regSeq (ExL.pures 1 rfl ?_)
      refine ExL.gtr rfl rfl rfl rfl rfl rfl (fun h72 => ?_) (fun h72 => ?_)
      · refine ExL.nil ?_
        refine Ex.cond_t rfl ?_
        refine Ex.skip ?_
        refine Ex.seq ?_
        refine Ex.block ?_
        refine Ex.regSeq (ExL.pures 0 rfl ?_)
        refine ExL.free (fr_loadN rfl rfl rfl rfl rfl (SegO.whole (i := 0) rfl)) rfl rfl rfl ?_
        refine ExL.op rfl (op_alloc rfl rfl rfl rfl rfl (fun b73 => ?_))
        refine ExL.op rfl (op_storeC (i := 0) rfl rfl rfl rfl rfl rfl rfl rfl rfl rfl ?_)
        refine ExL.nil ?_
        refine Ex.seq ?_
        refine Ex.regSeq (ExL.pures 1 rfl ?_)
        refine ExL.op rfl (op_mut rfl rfl rfl (c_one code _ _ (by omega) (by assumption) _ q.at_ _ (by omega) 6 (by omega)) (perm_at (i := 2) rfl) (hcode) rfl rfl (fun x74 hx74 => ?_))
        refine ExL.nil ?_
        refine Ex.cond rfl (fun hb75 => ?_) (fun hb75 => ?_)
        · refine Ex.region (ExL.pures 2 rfl ?_)
          refine ExL.op rfl (op_mut rfl rfl rfl (c_pick code _ _ (by omega) (by assumption) _ x74.2.1 _ (by omega) 100 (by omega)) (perm_at (i := 0) rfl) (hcode) rfl rfl (fun x76 hx76 => ?_))
          refine ExL.pures 1 rfl ?_
          refine ExL.op rfl (op_storeC (i := 1) rfl rfl rfl rfl rfl rfl rfl rfl rfl rfl ?_)
          refine ExL.nil ?_
          refine Ex.regSeq (ExL.pures 1 rfl ?_)
          refine ExL.free (fr_loadN rfl rfl rfl rfl rfl (SegO.whole (i := 1) rfl)) rfl rfl rfl ?_
          refine ExL.op rfl (op_buildSlice (sz := 2) rfl rfl rfl rfl rfl rfl rfl rfl (by decide) rfl rfl rfl (fun r77 => ?_))
          refine ExL.op rfl (op_append (sz := 2) (bytes := 16) (i := 4) rfl rfl rfl rfl (Reads.row (i := 0) rfl) rfl (fun e => nomatch e) rfl rfl rfl rfl (by constructor <;> first | omega | (unfold maxLen; omega)) rfl rfl (fun A78 cA78 => ?_))
          refine ExL.pures 1 rfl ?_
          refine ExL.nil ?_
          refine Ex.regSeq (ExL.pures 1 rfl ?_)
          refine ExL.op rfl (op_mut rfl rfl rfl (c_pick code _ _ (by omega) (by assumption) _ x76.2.1 _ (by omega) 4 (by omega)) (perm_at (i := 1) rfl) (hcode) rfl rfl (fun x80 hx80 => ?_))
          refine ExL.free (by first | exact fr_add64 rfl rfl rfl (by omega) | exact fr_add rfl rfl rfl) rfl rfl rfl ?_
          refine ExL.pures 1 rfl ?_
          refine ExL.nil ?_
          refine Ex.regSeq (ExL.pures 1 rfl ?_)
          refine ExL.free (fr_load rfl rfl rfl rfl (CellO.blk (i := 3) rfl rfl)) rfl rfl rfl ?_
          refine ExL.pures 1 rfl ?_
          refine ExL.free (by first | exact fr_add64 rfl rfl rfl (by omega) | exact fr_add rfl rfl rfl) rfl rfl rfl ?_
          refine ExL.pures 1 rfl ?_
          refine ExL.op rfl (op_storeC (i := 3) rfl rfl rfl rfl rfl rfl rfl rfl rfl rfl ?_)
          refine ExL.nil ?_
          refine Ex.drawSeqI [1, 2, 3, 4, 5, 6] rfl rfl ?_
          refine ExD.take (i := 0) rfl (by kernel_rfl) (pureVal_ok rfl) ((List.Sublist.cons _ (List.Sublist.cons_cons _ (List.Sublist.cons_cons _ (List.Sublist.cons_cons _ (List.Sublist.cons_cons _ (List.Sublist.cons_cons _ (List.Sublist.cons_cons _ (List.nil_sublist _))))))))) rfl rfl rfl ?_
          refine ExD.take (i := 1) rfl (by kernel_rfl) (fr_load rfl rfl rfl rfl (CellO.blk (i := 2) rfl rfl)) ((List.Sublist.cons _ (List.Sublist.cons_cons _ (List.Sublist.cons_cons _ (List.Sublist.cons_cons _ (List.Sublist.cons_cons _ (List.Sublist.cons_cons _ (List.Sublist.cons_cons _ (List.nil_sublist _))))))))) rfl rfl rfl ?_
          refine ExD.take (i := 2) rfl (by kernel_rfl) (pureVal_ok rfl) ((List.Sublist.cons _ (List.Sublist.cons_cons _ (List.Sublist.cons_cons _ (List.Sublist.cons_cons _ (List.Sublist.cons_cons _ (List.Sublist.cons_cons _ (List.Sublist.cons_cons _ (List.nil_sublist _))))))))) rfl rfl rfl ?_
          refine ExD.take (i := 3) rfl (by kernel_rfl) (pureVal_ok rfl) ((List.Sublist.cons _ (List.Sublist.cons_cons _ (List.Sublist.cons_cons _ (List.Sublist.cons_cons _ (List.Sublist.cons_cons _ (List.Sublist.cons_cons _ (List.Sublist.cons_cons _ (List.nil_sublist _))))))))) rfl rfl rfl ?_
          refine ExD.take (i := 4) rfl (by kernel_rfl) (fr_load rfl rfl rfl rfl (CellO.blk (i := 5) rfl rfl)) ((List.Sublist.cons _ (List.Sublist.cons_cons _ (List.Sublist.cons_cons _ (List.Sublist.cons_cons _ (List.Sublist.cons_cons _ (List.Sublist.cons_cons _ (List.Sublist.cons_cons _ (List.nil_sublist _))))))))) rfl rfl rfl ?_
          refine ExD.take (i := 5) rfl (by kernel_rfl) (pureVal_ok rfl) ((List.Sublist.cons _ (List.Sublist.cons_cons _ (List.Sublist.cons_cons _ (List.Sublist.cons_cons _ (List.Sublist.cons_cons _ (List.Sublist.cons_cons _ (List.Sublist.cons_cons _ (List.nil_sublist _))))))))) rfl rfl rfl ?_
          refine ExD.take (i := 10) rfl (by kernel_rfl) (pureVal_ok rfl) ((List.Sublist.cons _ (List.Sublist.cons_cons _ (List.Sublist.cons_cons _ (List.Sublist.cons_cons _ (List.Sublist.cons_cons _ (List.Sublist.cons_cons _ (List.Sublist.cons_cons _ (List.nil_sublist _))))))))) rfl rfl rfl ?_
          refine ExD.op (i := 6) rfl (by kernel_rfl) rfl (op_mut rfl rfl rfl (c_pick code _ _ (by omega) (by assumption) _ x80.2.1 _ (by omega) 12 (by omega)) (perm_at (i := 0) rfl) (hcode) rfl rfl (fun x81 hx81 => ⟨(List.Sublist.cons _ (List.Sublist.cons_cons _ (List.Sublist.cons_cons _ (List.Sublist.cons_cons _ (List.Sublist.cons_cons _ (List.Sublist.cons_cons _ (List.Sublist.cons_cons _ (List.nil_sublist _)))))))), ?_⟩))
          have hpm := mul_small (a := (1 + x80.1)) (b := f.a + x81.1) (by omega) (by omega)
          refine ExD.take (i := 7) rfl (by kernel_rfl) (by first | exact fr_add64 rfl rfl rfl (by omega) | exact fr_add rfl rfl rfl) ((List.Sublist.cons _ (List.Sublist.cons_cons _ (List.Sublist.cons_cons _ (List.Sublist.cons_cons _ (List.Sublist.cons_cons _ (List.Sublist.cons_cons _ (List.Sublist.cons_cons _ (List.nil_sublist _))))))))) rfl rfl rfl ?_
          refine ExD.take (i := 8) rfl (by kernel_rfl) (by first | exact fr_mul64 rfl rfl rfl (by omega) | exact fr_mul rfl rfl rfl) ((List.Sublist.cons _ (List.Sublist.cons_cons _ (List.Sublist.cons_cons _ (List.Sublist.cons_cons _ (List.Sublist.cons_cons _ (List.Sublist.cons_cons _ (List.Sublist.cons_cons _ (List.nil_sublist _))))))))) rfl rfl rfl ?_
          refine ExD.take (i := 9) rfl (by kernel_rfl) (by first | exact fr_add64 rfl rfl rfl (by omega) | exact fr_add rfl rfl rfl) ((List.Sublist.cons _ (List.Sublist.cons_cons _ (List.Sublist.cons_cons _ (List.Sublist.cons_cons _ (List.Sublist.cons_cons _ (List.Sublist.cons_cons _ (List.Sublist.cons_cons _ (List.nil_sublist _))))))))) rfl rfl rfl ?_
          refine ExD.op (i := 11) rfl (by kernel_rfl) rfl (op_ret rfl rfl rfl (c_l04Mod _ _ (by omega) (by omega)) (fun _ _ => trivial) rfl rfl (fun x82 hx82 => ⟨(List.Sublist.cons _ (List.Sublist.cons_cons _ (List.Sublist.cons_cons _ (List.Sublist.cons_cons _ (List.Sublist.cons_cons _ (List.Sublist.cons_cons _ (List.Sublist.cons_cons _ (List.nil_sublist _)))))))), ?_⟩))
          refine ExD.take (i := 12) rfl (by kernel_rfl) (pureVal_ok rfl) ((List.Sublist.cons _ (List.Sublist.cons_cons _ (List.Sublist.cons_cons _ (List.Sublist.cons_cons _ (List.Sublist.cons_cons _ (List.Sublist.cons_cons _ (List.Sublist.cons_cons _ (List.nil_sublist _))))))))) rfl rfl rfl ?_
          refine ExD.last (i := 13) rfl (by kernel_rfl) (by kernel_rfl) rfl (op_storeC (i := 3) rfl rfl rfl rfl rfl rfl rfl rfl rfl rfl ?_)
          refine ExD.done (by kernel_rfl) ?_
          obtain ⟨rv, hrv⟩ : ∃ z : Int, ((q.p.b + (1 + x80.1) * (f.a + x81.1)) % 100) = z := ⟨_, rfl⟩
          rw [hrv]
          have hrb : 0 ≤ rv ∧ rv < 100 := by rw [← hrv]; exact ⟨Int.emod_nonneg _ (by omega), Int.emod_lt_of_pos _ (by omega)⟩
          refine Ex.regSeq (ExL.pures 1 rfl ?_)
          refine ExL.op rfl (op_mut rfl rfl rfl (c_one code _ _ (by omega) (by assumption) _ x81.2.1 _ (by omega) 8 (by omega)) (perm_at (i := 0) rfl) (hcode) rfl rfl (fun x83 hx83 => ?_))
          refine ExL.nil ?_
          refine Ex.cond rfl (fun hb84 => ?_) (fun hb84 => ?_)
          · refine Ex.region (ExL.pures 2 rfl ?_)
            refine ExL.op rfl (op_mut rfl rfl rfl (c_pick code _ _ (by omega) (by assumption) _ x83.2.1 _ (by omega) 100 (by omega)) (perm_at (i := 0) rfl) (hcode) rfl rfl (fun x85 hx85 => ?_))
            refine ExL.pures 1 rfl ?_
            refine ExL.op rfl (op_storeC (i := 3) rfl rfl rfl rfl rfl rfl rfl rfl rfl rfl ?_)
            refine ExL.nil ?_
            refine Ex.region (ExL.pures 1 rfl ?_)
            refine ExL.free (by first | exact fr_sub64 rfl rfl rfl (by omega) | exact fr_sub rfl rfl rfl) rfl rfl rfl ?_
            refine ExL.pures 1 rfl ?_
            refine ExL.nil ?_
            refine Hand.mk (⟨q.l ++ [⟨q.p.a, x76.1⟩], ⟨(q.p.a + (1 + x80.1)), x85.1⟩, x85.2.1, x85.2.2, q.k - 1, A78, cA78⟩ : DrS) 7 [3, 0, 4, 5, 6] ⟨(by rw [List.length_append]; rfl), rfl, trivial⟩ ⟨rfl, rfl, rfl, rfl, rfl, rfl, rfl, trivial⟩ (by rw [List.length_append, List.flatMap_append]; rfl) rfl (⟨hL.next rfl ⟨by dsimp only; omega, by dsimp only; omega⟩ ⟨by dsimp only; omega, by dsimp only; omega⟩ ⟨by dsimp only; omega, by dsimp only; omega⟩, by dsimp only; rw [List.length_append, List.length_singleton]; omega, by dsimp only; omega, by dsimp only; omega, by dsimp only; rw [List.length_append, List.length_singleton]; push_cast; omega⟩) (by dsimp only; omega)
          · refine Ex.skip ?_
            refine Ex.region (ExL.pures 1 rfl ?_)
            refine ExL.free (by first | exact fr_sub64 rfl rfl rfl (by omega) | exact fr_sub rfl rfl rfl) rfl rfl rfl ?_
            refine ExL.pures 1 rfl ?_
            refine ExL.nil ?_
            refine Hand.mk (⟨q.l ++ [⟨q.p.a, x76.1⟩], ⟨(q.p.a + (1 + x80.1)), rv⟩, x83.2.1, x83.2.2, q.k - 1, A78, cA78⟩ : DrS) 7 [3, 0, 4, 5, 6] ⟨(by rw [List.length_append]; rfl), rfl, trivial⟩ ⟨rfl, rfl, rfl, rfl, rfl, rfl, rfl, trivial⟩ (by rw [List.length_append, List.flatMap_append]; rfl) rfl (⟨hL.next rfl ⟨by dsimp only; omega, by dsimp only; omega⟩ ⟨by dsimp only; omega, by dsimp only; omega⟩ ⟨by dsimp only; omega, by dsimp only; omega⟩, by dsimp only; rw [List.length_append, List.length_singleton]; omega, by dsimp only; omega, by dsimp only; omega, by dsimp only; rw [List.length_append, List.length_singleton]; push_cast; omega⟩) (by dsimp only; omega)
        · refine Ex.skip ?_
          refine Ex.regSeq (ExL.pures 1 rfl ?_)
          refine ExL.free (fr_loadN rfl rfl rfl rfl rfl (SegO.whole (i := 1) rfl)) rfl rfl rfl ?_
          refine ExL.op rfl (op_buildSlice (sz := 2) rfl rfl rfl rfl rfl rfl rfl rfl (by decide) rfl rfl rfl (fun r86 => ?_))
          refine ExL.op rfl (op_append (sz := 2) (bytes := 16) (i := 4) rfl rfl rfl rfl (Reads.row (i := 0) rfl) rfl (fun e => nomatch e) rfl rfl rfl rfl (by constructor <;> first | omega | (unfold maxLen; omega)) rfl rfl (fun A87 cA87 => ?_))
          refine ExL.pures 1 rfl ?_
          refine ExL.nil ?_
          refine Ex.regSeq (ExL.pures 1 rfl ?_)
          refine ExL.op rfl (op_mut rfl rfl rfl (c_pick code _ _ (by omega) (by assumption) _ x74.2.1 _ (by omega) 4 (by omega)) (perm_at (i := 1) rfl) (hcode) rfl rfl (fun x89 hx89 => ?_))
          refine ExL.free (by first | exact fr_add64 rfl rfl rfl (by omega) | exact fr_add rfl rfl rfl) rfl rfl rfl ?_
          refine ExL.pures 1 rfl ?_
          refine ExL.nil ?_
          refine Ex.regSeq (ExL.pures 1 rfl ?_)
          refine ExL.free (fr_load rfl rfl rfl rfl (CellO.blk (i := 3) rfl rfl)) rfl rfl rfl ?_
          refine ExL.pures 1 rfl ?_
          refine ExL.free (by first | exact fr_add64 rfl rfl rfl (by omega) | exact fr_add rfl rfl rfl) rfl rfl rfl ?_
          refine ExL.pures 1 rfl ?_
          refine ExL.op rfl (op_storeC (i := 3) rfl rfl rfl rfl rfl rfl rfl rfl rfl rfl ?_)
          refine ExL.nil ?_
          refine Ex.drawSeqI [1, 2, 3, 4, 5, 6] rfl rfl ?_
          refine ExD.take (i := 0) rfl (by kernel_rfl) (pureVal_ok rfl) ((List.Sublist.cons _ (List.Sublist.cons_cons _ (List.Sublist.cons_cons _ (List.Sublist.cons_cons _ (List.Sublist.cons_cons _ (List.Sublist.cons_cons _ (List.Sublist.cons_cons _ (List.nil_sublist _))))))))) rfl rfl rfl ?_
          refine ExD.take (i := 1) rfl (by kernel_rfl) (fr_load rfl rfl rfl rfl (CellO.blk (i := 2) rfl rfl)) ((List.Sublist.cons _ (List.Sublist.cons_cons _ (List.Sublist.cons_cons _ (List.Sublist.cons_cons _ (List.Sublist.cons_cons _ (List.Sublist.cons_cons _ (List.Sublist.cons_cons _ (List.nil_sublist _))))))))) rfl rfl rfl ?_
          refine ExD.take (i := 2) rfl (by kernel_rfl) (pureVal_ok rfl) ((List.Sublist.cons _ (List.Sublist.cons_cons _ (List.Sublist.cons_cons _ (List.Sublist.cons_cons _ (List.Sublist.cons_cons _ (List.Sublist.cons_cons _ (List.Sublist.cons_cons _ (List.nil_sublist _))))))))) rfl rfl rfl ?_
          refine ExD.take (i := 3) rfl (by kernel_rfl) (pureVal_ok rfl) ((List.Sublist.cons _ (List.Sublist.cons_cons _ (List.Sublist.cons_cons _ (List.Sublist.cons_cons _ (List.Sublist.cons_cons _ (List.Sublist.cons_cons _ (List.Sublist.cons_cons _ (List.nil_sublist _))))))))) rfl rfl rfl ?_
          refine ExD.take (i := 4) rfl (by kernel_rfl) (fr_load rfl rfl rfl rfl (CellO.blk (i := 5) rfl rfl)) ((List.Sublist.cons _ (List.Sublist.cons_cons _ (List.Sublist.cons_cons _ (List.Sublist.cons_cons _ (List.Sublist.cons_cons _ (List.Sublist.cons_cons _ (List.Sublist.cons_cons _ (List.nil_sublist _))))))))) rfl rfl rfl ?_
          refine ExD.take (i := 5) rfl (by kernel_rfl) (pureVal_ok rfl) ((List.Sublist.cons _ (List.Sublist.cons_cons _ (List.Sublist.cons_cons _ (List.Sublist.cons_cons _ (List.Sublist.cons_cons _ (List.Sublist.cons_cons _ (List.Sublist.cons_cons _ (List.nil_sublist _))))))))) rfl rfl rfl ?_
          refine ExD.take (i := 10) rfl (by kernel_rfl) (pureVal_ok rfl) ((List.Sublist.cons _ (List.Sublist.cons_cons _ (List.Sublist.cons_cons _ (List.Sublist.cons_cons _ (List.Sublist.cons_cons _ (List.Sublist.cons_cons _ (List.Sublist.cons_cons _ (List.nil_sublist _))))))))) rfl rfl rfl ?_
          refine ExD.op (i := 6) rfl (by kernel_rfl) rfl (op_mut rfl rfl rfl (c_pick code _ _ (by omega) (by assumption) _ x89.2.1 _ (by omega) 12 (by omega)) (perm_at (i := 0) rfl) (hcode) rfl rfl (fun x90 hx90 => ⟨(List.Sublist.cons _ (List.Sublist.cons_cons _ (List.Sublist.cons_cons _ (List.Sublist.cons_cons _ (List.Sublist.cons_cons _ (List.Sublist.cons_cons _ (List.Sublist.cons_cons _ (List.nil_sublist _)))))))), ?_⟩))
          have hpm := mul_small (a := (1 + x89.1)) (b := f.a + x90.1) (by omega) (by omega)
          refine ExD.take (i := 7) rfl (by kernel_rfl) (by first | exact fr_add64 rfl rfl rfl (by omega) | exact fr_add rfl rfl rfl) ((List.Sublist.cons _ (List.Sublist.cons_cons _ (List.Sublist.cons_cons _ (List.Sublist.cons_cons _ (List.Sublist.cons_cons _ (List.Sublist.cons_cons _ (List.Sublist.cons_cons _ (List.nil_sublist _))))))))) rfl rfl rfl ?_
          refine ExD.take (i := 8) rfl (by kernel_rfl) (by first | exact fr_mul64 rfl rfl rfl (by omega) | exact fr_mul rfl rfl rfl) ((List.Sublist.cons _ (List.Sublist.cons_cons _ (List.Sublist.cons_cons _ (List.Sublist.cons_cons _ (List.Sublist.cons_cons _ (List.Sublist.cons_cons _ (List.Sublist.cons_cons _ (List.nil_sublist _))))))))) rfl rfl rfl ?_
          refine ExD.take (i := 9) rfl (by kernel_rfl) (by first | exact fr_add64 rfl rfl rfl (by omega) | exact fr_add rfl rfl rfl) ((List.Sublist.cons _ (List.Sublist.cons_cons _ (List.Sublist.cons_cons _ (List.Sublist.cons_cons _ (List.Sublist.cons_cons _ (List.Sublist.cons_cons _ (List.Sublist.cons_cons _ (List.nil_sublist _))))))))) rfl rfl rfl ?_
          refine ExD.op (i := 11) rfl (by kernel_rfl) rfl (op_ret rfl rfl rfl (c_l04Mod _ _ (by omega) (by omega)) (fun _ _ => trivial) rfl rfl (fun x91 hx91 => ⟨(List.Sublist.cons _ (List.Sublist.cons_cons _ (List.Sublist.cons_cons _ (List.Sublist.cons_cons _ (List.Sublist.cons_cons _ (List.Sublist.cons_cons _ (List.Sublist.cons_cons _ (List.nil_sublist _)))))))), ?_⟩))
          refine ExD.take (i := 12) rfl (by kernel_rfl) (pureVal_ok rfl) ((List.Sublist.cons _ (List.Sublist.cons_cons _ (List.Sublist.cons_cons _ (List.Sublist.cons_cons _ (List.Sublist.cons_cons _ (List.Sublist.cons_cons _ (List.Sublist.cons_cons _ (List.nil_sublist _))))))))) rfl rfl rfl ?_
          refine ExD.last (i := 13) rfl (by kernel_rfl) (by kernel_rfl) rfl (op_storeC (i := 3) rfl rfl rfl rfl rfl rfl rfl rfl rfl rfl ?_)
          refine ExD.done (by kernel_rfl) ?_
          obtain ⟨rv, hrv⟩ : ∃ z : Int, ((q.p.b + (1 + x89.1) * (f.a + x90.1)) % 100) = z := ⟨_, rfl⟩
          rw [hrv]
          have hrb : 0 ≤ rv ∧ rv < 100 := by rw [← hrv]; exact ⟨Int.emod_nonneg _ (by omega), Int.emod_lt_of_pos _ (by omega)⟩
          refine Ex.regSeq (ExL.pures 1 rfl ?_)
          refine ExL.op rfl (op_mut rfl rfl rfl (c_one code _ _ (by omega) (by assumption) _ x90.2.1 _ (by omega) 8 (by omega)) (perm_at (i := 0) rfl) (hcode) rfl rfl (fun x92 hx92 => ?_))
          refine ExL.nil ?_
          refine Ex.cond rfl (fun hb93 => ?_) (fun hb93 => ?_)
          · refine Ex.region (ExL.pures 2 rfl ?_)
            refine ExL.op rfl (op_mut rfl rfl rfl (c_pick code _ _ (by omega) (by assumption) _ x92.2.1 _ (by omega) 100 (by omega)) (perm_at (i := 0) rfl) (hcode) rfl rfl (fun x94 hx94 => ?_))
            refine ExL.pures 1 rfl ?_
            refine ExL.op rfl (op_storeC (i := 3) rfl rfl rfl rfl rfl rfl rfl rfl rfl rfl ?_)
            refine ExL.nil ?_
            refine Ex.region (ExL.pures 1 rfl ?_)
            refine ExL.free (by first | exact fr_sub64 rfl rfl rfl (by omega) | exact fr_sub rfl rfl rfl) rfl rfl rfl ?_
            refine ExL.pures 1 rfl ?_
            refine ExL.nil ?_
            refine Hand.mk (⟨q.l ++ [⟨q.p.a, q.p.b⟩], ⟨(q.p.a + (1 + x89.1)), x94.1⟩, x94.2.1, x94.2.2, q.k - 1, A87, cA87⟩ : DrS) 7 [3, 0, 4, 5, 6] ⟨(by rw [List.length_append]; rfl), rfl, trivial⟩ ⟨rfl, rfl, rfl, rfl, rfl, rfl, rfl, trivial⟩ (by rw [List.length_append, List.flatMap_append]; rfl) rfl (⟨hL.next rfl ⟨by dsimp only; omega, by dsimp only; omega⟩ ⟨by dsimp only; omega, by dsimp only; omega⟩ ⟨by dsimp only; omega, by dsimp only; omega⟩, by dsimp only; rw [List.length_append, List.length_singleton]; omega, by dsimp only; omega, by dsimp only; omega, by dsimp only; rw [List.length_append, List.length_singleton]; push_cast; omega⟩) (by dsimp only; omega)
          · refine Ex.skip ?_
            refine Ex.region (ExL.pures 1 rfl ?_)
            refine ExL.free (by first | exact fr_sub64 rfl rfl rfl (by omega) | exact fr_sub rfl rfl rfl) rfl rfl rfl ?_
            refine ExL.pures 1 rfl ?_
            refine ExL.nil ?_
            refine Hand.mk (⟨q.l ++ [⟨q.p.a, q.p.b⟩], ⟨(q.p.a + (1 + x89.1)), rv⟩, x92.2.1, x92.2.2, q.k - 1, A87, cA87⟩ : DrS) 7 [3, 0, 4, 5, 6] ⟨(by rw [List.length_append]; rfl), rfl, trivial⟩ ⟨rfl, rfl, rfl, rfl, rfl, rfl, rfl, trivial⟩ (by rw [List.length_append, List.flatMap_append]; rfl) rfl (⟨hL.next rfl ⟨by dsimp only; omega, by dsimp only; omega⟩ ⟨by dsimp only; omega, by dsimp only; omega⟩ ⟨by dsimp only; omega, by dsimp only; omega⟩, by dsimp only; rw [List.length_append, List.length_singleton]; omega, by dsimp only; omega, by dsimp only; omega, by dsimp only; rw [List.length_append, List.length_singleton]; push_cast; omega⟩) (by dsimp only; omega)
      · refine ExL.nil ?_
        refine Ex.cond_f rfl ?_
        refine Ex.exit ?_
        refine Ex.regSeq (ExL.pures 4 rfl ?_)
        refine ExL.nil ?_
        refine Ex.ret ?_
        refine MutQ.mk ((q.at_, q.sd), (((some ⟨r2, 0, none⟩), 2), [10, 10]), ((q.A, q.c), q.l)) rfl (.tmp rfl (.tmp rfl .nil)) (rfl) 5 [1, 3, 2] (rfl) rfl (hL.dr hz9 hv9 hn9 (Nat.le_of_ble_eq_true rfl) (by omega) (by omega))
theorem e_5 : Enters Tryz.prog 5 := Enters.of Tryz.func5 rfl
theorem c_A2Log (code : List Int) (Ac : Option Addr) (cc : Nat) (hcl : code.length ≤ maxLen) (hcu : Nums 255 code) : Ret Tryz.prog 5 [.slice Ac code.length cc] (fun w => Rd w Ac (code.flatMap (eI .u8))) (fun x : ((Option Addr × Nat) × List Int) × ((Option Addr × Nat) × List VP) × VP => .tuple #[.slice x.1.1.1 x.1.2.length x.1.1.2, .slice x.2.1.1.1 x.2.1.2.length x.2.1.1.2, .agg (encP x.2.2).toArray]) (fun x => [.row (.slice x.1.1.1 x.1.2.length x.1.1.2) 5 1 x.1.2.length (x.1.2.flatMap (eI .u8)), .row (.slice x.2.1.1.1 x.2.1.2.length x.2.1.1.2) 85 2 x.2.1.2.length (x.2.1.2.flatMap encP)]) (fun x => LgDr x.1.2 x.2.1.2 ∧ validFlow x.2.2 = true) := by
  refine Ret.of e_5 Tryz.func5 rfl Tryz.ntmps5 rfl rfl (fun w hpre => ?_)
  have hcode := hpre.base
  have hm0 : maxLen = 9223372036854775807 := rfl
  refine Ex.regSeq (ExL.pures 2 rfl ?_)
  refine ExL.op rfl (op_alloc rfl rfl rfl rfl rfl (fun b1 => ?_))
  refine ExL.nil ?_
  refine Ex.regSeq (ExL.pures 1 rfl ?_)
  refine ExL.op rfl (op_ret rfl rfl rfl (c_l00From code _ _) (fun _ _ => trivial) rfl rfl (fun x2 hx2 => ?_))
  refine ExL.pures 1 rfl ?_
  refine ExL.nil ?_
  refine Ex.regSeq (ExL.pures 1 rfl ?_)
  refine ExL.op rfl (op_mut rfl rfl rfl (c_pick code _ _ (by omega) (by assumption) _ 0 _ (by omega) 6 (by omega)) (perm_at (i := 0) rfl) (hcode) rfl rfl (fun x3 hx3 => ?_))
  refine ExL.free (fr_build rfl rfl rfl rfl) rfl rfl rfl ?_
  refine ExL.op rfl (op_alloc rfl rfl rfl rfl rfl (fun b4 => ?_))
  refine ExL.op rfl (op_storeC (i := 0) rfl rfl rfl rfl rfl rfl rfl rfl rfl rfl ?_)
  refine ExL.nil ?_
  refine Ex.drawSeqI [0, 2] rfl rfl ?_
  refine ExD.take (i := 0) rfl (by kernel_rfl) (pureVal_ok rfl) ((List.Sublist.cons_cons _ (List.Sublist.cons _ (List.Sublist.refl _)))) rfl rfl rfl ?_
  refine ExD.take (i := 1) rfl (by kernel_rfl) (fr_load rfl rfl rfl rfl (CellO.blk (i := 0) rfl rfl)) ((List.Sublist.cons_cons _ (List.Sublist.cons _ (List.Sublist.refl _)))) rfl rfl rfl ?_
  refine ExD.take (i := 2) rfl (by kernel_rfl) (pureVal_ok rfl) ((List.Sublist.cons_cons _ (List.Sublist.cons _ (List.Sublist.refl _)))) rfl rfl rfl ?_
  refine ExD.op (i := 3) rfl (by kernel_rfl) rfl (op_mut rfl rfl rfl (c_pick code _ _ (by omega) (by assumption) _ x3.2.1 _ (by omega) 12 (by omega)) (perm_at (i := 1) rfl) (hcode) rfl rfl (fun x5 hx5 => ⟨(List.Sublist.cons _ (List.Sublist.refl _)), ?_⟩))
  refine ExD.take (i := 4) rfl (by kernel_rfl) (by first | exact fr_add64 rfl rfl rfl (by omega) | exact fr_add rfl rfl rfl) ((List.Sublist.cons _ (List.Sublist.refl _))) rfl rfl rfl ?_
  refine ExD.take (i := 5) rfl (by kernel_rfl) (pureVal_ok rfl) ((List.Sublist.cons _ (List.Sublist.refl _))) rfl rfl rfl ?_
  refine ExD.last (i := 6) rfl (by kernel_rfl) (by kernel_rfl) rfl (op_storeC (i := 1) rfl rfl rfl rfl rfl rfl rfl rfl rfl rfl ?_)
  refine ExD.done (by kernel_rfl) ?_
  refine Ex.regSeq (ExL.pures 1 rfl ?_)
  refine ExL.free (fr_loadN rfl rfl rfl rfl rfl (SegO.whole (i := 1) rfl)) rfl rfl rfl ?_
  refine ExL.op rfl (op_mut rfl rfl rfl (c_l04Drawn code _ _ (by omega) (by assumption) _ x5.2.1 _ (by omega) (⟨x3.1, (x3.1 + x5.1)⟩ : VP) (by dsimp only; omega)) (perm_at (i := 0) rfl) (hcode) rfl rfl (fun x6 hx6 => ?_))
  refine ExL.pures 5 rfl ?_
  refine ExL.nil ?_
  refine Ex.drawSeqM rfl ?_
  refine ExD.take (i := 0) rfl (by kernel_rfl) (pureVal_ok rfl) ((List.Sublist.refl _)) rfl rfl rfl ?_
  refine ExD.take (i := 1) rfl (by kernel_rfl) (pureVal_ok rfl) ((List.Sublist.refl _)) rfl rfl rfl ?_
  refine ExD.take (i := 2) rfl (by kernel_rfl) (fr_loadN rfl rfl rfl rfl rfl (SegO.whole (i := 3) rfl)) ((List.Sublist.refl _)) rfl rfl rfl ?_
  refine ExD.take (i := 3) rfl (by kernel_rfl) (pureVal_ok rfl) ((List.Sublist.refl _)) rfl rfl rfl ?_
  refine ExD.take (i := 4) rfl (by kernel_rfl) (pureVal_ok rfl) ((List.Sublist.refl _)) rfl rfl rfl ?_
  refine ExD.last (i := 5) rfl (by kernel_rfl) (by kernel_rfl) rfl (op_storeC (i := 4) rfl rfl rfl rfl rfl rfl rfl rfl rfl rfl ?_)
  refine ExD.done (by kernel_rfl) ?_
  refine Ex.ret ?_
  refine RetQ.mk (((x6.2.1.1.1, x6.2.1.1.2), x6.2.1.2), ((x6.2.2.1.1, x6.2.2.1.2), x6.2.2.2), ⟨x3.1, (x3.1 + x5.1)⟩) rfl (.tmp rfl (.tmp rfl (.cell rfl (.many rfl rfl rfl (SegO.whole (i := 4) rfl)) .nil))) (rfl) [1, 2] (rfl) rfl (⟨(by assumption : LgDr _ _), by unfold validFlow; exact decide_eq_true ⟨by dsimp only; omega, by dsimp only; omega, by dsimp only; omega⟩⟩)
end Go.Proofs.YtddflaaccmjoeaaGreatDoor

/- What these functions of the program hand back, each proved by walking its operations. -/
set_option linter.unusedVariables false
set_option linter.unusedSimpArgs false
set_option maxRecDepth 4000
namespace Go.Proofs.YtddflaaccmjoeaaGreatDoor
open Go Go.Sx Go.RowKit Go.W Go.Proofs
attribute [local irreducible] Ex ExL ExD Op1 Free RetQ MutQ Reads CellO SegO LoadsAs
theorem c_best2 (fit : Nat → Nat → Bool) (n : Nat) (hn : n ≤ 40) (K : List (VX Bool)) (hKl : K.length = n) (hCK : CanK fit n K) (b o : Nat) (As Al : Option Addr) (ns cs cl : Nat) (wo : Int) : Ret Tryz.prog 31 [.pointer (some ⟨b, 0, none⟩), .int .i64 wo] (fun w => Rd w (some ⟨b, 0, none⟩) [.slice As ns cs, .slice Al n cl, .slice (some ⟨o, 0, none⟩) n n] ∧ Rd w (some ⟨o, 0, none⟩) (K.flatMap encX) ∧ ∀ k, k < K.length → Rd w (K.getD k zX).A ((K.getD k zX).xs.flatMap eB)) (fun x : VPl × List Rw => .agg (encPl x.1).toArray) (fun x => [.pile x.2]) (fun x => x.1.t = (btT fit n wo n).2 ∧ OkPl 2 x.2 x.1) := by
  refine Ret.of e_31 Tryz.func31 rfl Tryz.ntmps31 rfl rfl (fun w hpre => ?_)
  have hd := hpre.1.base
  have hc := hpre.2.1.base
  have hcr := fun k hk => (hpre.2.2 k hk).base
  have hKn := hKl
  have hm0 : maxLen = 9223372036854775807 := rfl
  refine Ex.regSeq (ExL.pures 0 rfl ?_)
  refine ExL.op rfl (op_alloc rfl rfl rfl rfl rfl (fun b1 => ?_))
  refine ExL.nil ?_
  refine Ex.regSeq (ExL.pures 3 rfl ?_)
  refine ExL.free (fr_load rfl rfl rfl rfl (CellO.at 1 (Reads.old hd) rfl)) rfl rfl rfl ?_
  refine ExL.pures 2 rfl ?_
  refine ExL.nil ?_
  refine Ex.regSeq (ExL.pures 1 rfl ?_)
  refine ExL.op rfl (op_makeSlice (sz := 40) rfl rfl rfl rfl rfl rfl rfl rfl (⟨by omega, by unfold maxLen; omega⟩) rfl rfl (fun r2 => ?_))
  refine ExL.free (fr_build rfl rfl rfl rfl) rfl rfl rfl ?_
  refine ExL.op rfl (op_alloc rfl rfl rfl rfl rfl (fun b3 => ?_))
  refine ExL.pures 1 rfl ?_
  refine ExL.op rfl (op_storeC (i := 0) rfl rfl rfl rfl rfl rfl rfl rfl rfl rfl ?_)
  refine ExL.nil ?_
  refine Ex.regSeq (ExL.pures 1 rfl ?_)
  refine ExL.nil ?_
  refine Ex.seq ?_
  refine Ex.pile0 ?_
  refine Ex.regSeq (ExL.pures 1 rfl ?_)
  refine ExL.free (by first | exact fr_sub64 rfl rfl rfl (by omega) | exact fr_sub rfl rfl rfl) rfl rfl rfl ?_
  refine ExL.pures 1 rfl ?_
  refine ExL.nil ?_
  refine Ex.block ?_
  refine Ex.loopK (X := BSt) (fun q => [(8, .bool (btT fit n wo q.d).1), (9, .int .i64 ((n : Int) - 1 - q.d))]) (fun q => [.row (.slice (some ⟨r2, 0, none⟩) n n) 61 3 n (q.Q.flatMap encPl), .pile q.P, .blk b3 (encPl q.o) 61]) (fun q => BI fit n wo 2 q.d q.Q q.P q.o) (fun q => n - q.d) ⟨0, List.replicate n zPl, [], zPl⟩ [(0, _), (1, _), (4, _), (5, _), (6, _), (7, _)] [_] 4 [2, 0, 1, 3] ⟨rfl, agI (by first | omega | (dsimp only; omega)), trivial⟩ ⟨rfl, rfl, rfl, rfl, rfl, rfl, trivial⟩ (pkR (pl_zero rfl)) rfl (bi_0 _ _ _ _) (fun q hI => ?_)
  have hI : BI fit n wo 2 q.d q.Q q.P q.o := hI
  have hdn := hI.dn
  have hQl := hI.len
  refine Ex.seq ?_
  refine Ex.regSeq (ExL.pures 1 rfl ?_)
  refine ExL.geq rfl rfl rfl rfl rfl rfl (fun h4 => ?_) (fun h4 => ?_)
  · refine ExL.nil ?_
    refine Ex.cond_t rfl ?_
    refine Ex.skip ?_
    refine Ex.seq ?_
    refine Ex.block ?_
    have hdl : q.d < n := by omega
    rw [show (n : Int) - 1 - q.d = (((n - 1 - q.d) : Nat) : Int) by omega]
    refine Ex.seq ?_
    refine Ex.regSeq (ExL.pures 2 rfl ?_)
    refine ExL.eql rfl rfl rfl rfl rfl rfl (fun h5 => ?_) (fun h5 => ?_)
    · refine ExL.nil ?_
      refine Ex.cond_t rfl ?_
      refine Ex.exit ?_
      refine Ex.region (ExL.pures 1 rfl ?_)
      refine ExL.free (by first | exact fr_sub64 rfl rfl rfl (by omega) | exact fr_sub rfl rfl rfl) rfl rfl rfl ?_
      refine ExL.pures 1 rfl ?_
      refine ExL.nil ?_
      refine Hand.mk ((⟨q.d + 1, q.Q, q.P, q.o⟩ : BSt)) 4 [0, 1, 2, 3] ⟨agB (by rw [btT, if_pos (by omega)]), agI (by first | omega | (dsimp only; omega)), trivial⟩ ⟨rfl, rfl, rfl, rfl, rfl, rfl, trivial⟩ (rfl) rfl (hI.skip hdl (by omega)) (by first | omega | (dsimp only; omega))
    · refine ExL.nil ?_
      refine Ex.cond_f rfl ?_
      refine Ex.skip ?_
      have hwo : ¬ (((n - 1 - q.d) : Nat) : Int) = wo := by omega
      refine Ex.regSeq (ExL.pures 2 rfl ?_)
      refine ExL.free (fr_build (cells := encPl zPl) rfl rfl rfl (by kernel_rfl)) rfl rfl rfl ?_
      refine ExL.pures 2 rfl ?_
      refine ExL.free (by first | exact fr_sub64 rfl rfl rfl (by omega) | exact fr_sub rfl rfl rfl) rfl rfl rfl ?_
      refine ExL.pures 1 rfl ?_
      refine ExL.free (by first | exact fr_sub64 rfl rfl rfl (by omega) | exact fr_sub rfl rfl rfl) rfl rfl rfl ?_
      refine ExL.op rfl (op_ret rfl rfl rfl (c_from zPl (by first | assumption | exact (fun _ => ⟨rfl, rfl⟩) | exact OkPl.none hcand.2) (by first | omega | decide) (by first | omega | decide) _ _ (by omega) _ (by first | omega | exact brk_bd _)) (fun w hw => rd_nil w) rfl rfl (fun x6 hx6 => ?_))
      refine ExL.free (fr_indexAddr (sz := 3) rfl rfl rfl rfl rfl rfl (by omega)) rfl rfl rfl ?_
      refine ExL.op rfl (op_storeRowF (i := 1) rfl rfl rfl rfl rfl rfl rfl rfl (room encPl_len (k := (n - 1 - q.d)) (by omega) (by simp) rfl) (List.cons_ne_nil _ _) rfl (pl_put (i := (n - 1 - q.d)) (⟨zPl.cost + ((n - 1) - ↑(n - 1 - q.d)) * 1 + 0 * 2, zPl.breaks + 0, x6.1, x6.2, ↑(n - 1 - q.d) :: zPl.xs⟩ : VPl) (by omega) (by simp) rfl) ?_)
      refine ExL.nil ?_
      refine Ex.seq ?_
      rw [show (n : Int) - 1 - (((n - 1 - q.d) : Nat) : Int) = (q.d : Int) by omega]
      refine Ex.conv (layEnd (perm_lt (i := 0) (j := 2) rfl rfl rfl)) ?_
      have hst := hI.start hdl (⟨zPl.cost + (q.d : Int) * 1 + 0 * 2, zPl.breaks + 0, x6.1, x6.2, (((n - 1 - q.d) : Nat) : Int) :: zPl.xs⟩ : VPl) rfl hx6
      refine Ex.regSeq (ExL.pures 1 rfl ?_)
      refine ExL.free (by first | exact fr_add64 rfl rfl rfl (by omega) | exact fr_add rfl rfl rfl) rfl rfl rfl ?_
      refine ExL.pures 1 rfl ?_
      refine ExL.nil ?_
      refine Ex.block ?_
      refine Ex.loopK (X := ISt) (fun r => [(10, .int .i64 (((n - q.d + r.m) : Nat) : Int))]) (fun r => [.row (.slice (some ⟨r2, 0, none⟩) n n) 61 3 n (r.Q.flatMap encPl), .pile r.P]) (fun r => II fit n wo 2 q.d r.m r.Q r.P q.o) (fun r => q.d - r.m) ⟨0, q.Q.set (n - 1 - q.d) (⟨zPl.cost + (q.d : Int) * 1 + 0 * 2, zPl.breaks + 0, x6.1, x6.2, (((n - 1 - q.d) : Nat) : Int) :: zPl.xs⟩ : VPl), q.P ++ [rowPl 2 (⟨zPl.cost + (q.d : Int) * 1 + 0 * 2, zPl.breaks + 0, x6.1, x6.2, (((n - 1 - q.d) : Nat) : Int) :: zPl.xs⟩ : VPl)]⟩ [(0, _), (1, _), (4, _), (5, _), (6, _), (7, _), (8, _), (9, _)] [_, _] 4 [1, 0, 2, 3] ⟨agI (by first | omega | (dsimp only; omega)), trivial⟩ ⟨rfl, rfl, rfl, rfl, rfl, rfl, rfl, rfl, trivial⟩ (rfl) rfl hst (fun r hI => ?_)
      have hI : II fit n wo 2 q.d r.m r.Q r.P q.o := hI
      have hmd := hI.mn
      have hRl := hI.len
      refine Ex.seq ?_
      refine Ex.regSeq (ExL.pures 2 rfl ?_)
      refine ExL.lss rfl rfl rfl rfl rfl rfl (fun h7 => ?_) (fun h7 => ?_)
      · refine ExL.nil ?_
        refine Ex.cond_t rfl ?_
        refine Ex.skip ?_
        refine Ex.seq ?_
        refine Ex.block ?_
        refine Ex.seq ?_
        refine Ex.regSeq (ExL.pures 2 rfl ?_)
        refine ExL.eql rfl rfl rfl rfl rfl rfl (fun h8 => ?_) (fun h8 => ?_)
        · refine ExL.nil ?_
          refine Ex.cond_t rfl ?_
          refine Ex.exit ?_
          refine Ex.region (ExL.pures 1 rfl ?_)
          refine ExL.free (by first | exact fr_add64 rfl rfl rfl (by omega) | exact fr_add rfl rfl rfl) rfl rfl rfl ?_
          refine ExL.pures 1 rfl ?_
          refine ExL.nil ?_
          refine Hand.mk ((⟨r.m + 1, r.Q, r.P⟩ : ISt)) 4 [0, 1, 2, 3] ⟨agI (by first | omega | (dsimp only; omega)), trivial⟩ ⟨rfl, rfl, rfl, rfl, rfl, rfl, rfl, rfl, trivial⟩ (rfl) rfl (hI.skip (by omega) (by omega)) (by first | omega | (dsimp only; omega))
        · refine ExL.nil ?_
          refine Ex.cond_f rfl ?_
          refine Ex.skip ?_
          have hcand := hI.cand (by omega)
          have hcb := hI.cbd (by omega)
          obtain ⟨hxl, hbe⟩ := canK_bool hCK (i := (n - 1 - q.d)) (j := (n - q.d + r.m)) (by omega) (by omega) (by omega)
          have hib := hI.ibd
          have hbb := brk_bd (fit (n - 1 - q.d) (n - q.d + r.m))
          refine Ex.drawSeqM rfl ?_
          refine ExD.take (i := 0) rfl (by kernel_rfl) (pureVal_ok rfl) ((List.Sublist.refl _)) rfl rfl rfl ?_
          refine ExD.take (i := 1) rfl (by kernel_rfl) (pureVal_ok rfl) ((List.Sublist.refl _)) rfl rfl rfl ?_
          refine ExD.take (i := 2) rfl (by kernel_rfl) (fr_indexAddr (sz := 3) rfl rfl rfl rfl rfl rfl (by omega)) ((List.Sublist.refl _)) rfl rfl rfl ?_
          refine ExD.take (i := 3) rfl (by kernel_rfl) (fr_loadN rfl rfl rfl rfl rfl (segJ ((n - q.d + r.m)) (Reads.row (i := 0) rfl) encPl_len rfl zPl (by omega) (by omega))) ((List.Sublist.refl _)) rfl rfl rfl ?_
          refine ExD.take (i := 4) rfl (by kernel_rfl) (pureVal_ok rfl) ((List.Sublist.refl _)) rfl rfl rfl ?_
          refine ExD.take (i := 5) rfl (by kernel_rfl) (pureVal_ok rfl) ((List.Sublist.refl _)) rfl rfl rfl ?_
          refine ExD.take (i := 6) rfl (by kernel_rfl) (pureVal_ok rfl) ((List.Sublist.refl _)) rfl rfl rfl ?_
          refine ExD.take (i := 7) rfl (by kernel_rfl) (by first | exact fr_sub64 rfl rfl rfl (by omega) | exact fr_sub rfl rfl rfl) ((List.Sublist.refl _)) rfl rfl rfl ?_
          refine ExD.take (i := 8) rfl (by kernel_rfl) (by first | exact fr_sub64 rfl rfl rfl (by omega) | exact fr_sub rfl rfl rfl) ((List.Sublist.refl _)) rfl rfl rfl ?_
          refine ExD.take (i := 9) rfl (by kernel_rfl) (pureVal_ok rfl) ((List.Sublist.refl _)) rfl rfl rfl ?_
          refine ExD.take (i := 10) rfl (by kernel_rfl) (pureVal_ok rfl) ((List.Sublist.refl _)) rfl rfl rfl ?_
          refine ExD.take (i := 11) rfl (by kernel_rfl) (pureVal_ok rfl) ((List.Sublist.refl _)) rfl rfl rfl ?_
          refine ExD.take (i := 12) rfl (by kernel_rfl) (fr_load rfl rfl rfl rfl (CellO.at 2 (Reads.old hd) rfl)) ((List.Sublist.refl _)) rfl rfl rfl ?_
          refine ExD.take (i := 13) rfl (by kernel_rfl) (pureVal_ok rfl) ((List.Sublist.refl _)) rfl rfl rfl ?_
          refine ExD.take (i := 14) rfl (by kernel_rfl) (fr_indexAddrE (sz := 1) hKl (Reads.old hc) encX_len rfl rfl rfl rfl rfl rfl (by omega)) ((List.Sublist.refl _)) rfl rfl rfl ?_
          refine ExD.take (i := 15) rfl (by kernel_rfl) (fr_load rfl rfl rfl rfl (cellJ (i := ↑(n - 1 - q.d)) ((n - 1 - q.d)) (Reads.old hc) encX_len zX 0 rfl (by omega) (by omega) rfl)) ((List.Sublist.refl _)) rfl rfl rfl ?_
          refine ExD.take (i := 16) rfl (by kernel_rfl) (pureVal_ok rfl) ((List.Sublist.refl _)) rfl rfl rfl ?_
          refine ExD.take (i := 17) rfl (by kernel_rfl) (fr_indexAddrF (Reads.old (hcr (n - 1 - q.d) (by omega))) eB_len rfl rfl rfl rfl rfl rfl (by omega)) ((List.Sublist.refl _)) rfl rfl rfl ?_
          refine ExD.take (i := 18) rfl (by kernel_rfl) (fr_load rfl rfl rfl rfl (cellJ (i := ↑(n - q.d + r.m)) ((n - q.d + r.m)) (Reads.old (hcr (n - 1 - q.d) (by omega))) eB_len false 0 rfl (by omega) (by omega) rfl)) ((List.Sublist.refl _)) rfl rfl rfl ?_
          refine ExDF.start 21 rfl (Alc.of rfl rfl rfl rfl rfl) ?_
          refine ExDF.step (i := 19) rfl rfl (by kernel_rfl) (by kernel_rfl) rfl rfl rfl (fun _ => rfl) rfl (List.Sublist.refl _) (Alc.of rfl rfl rfl rfl rfl) (fun K' hK => op_ret rfl rfl rfl (c_oneUnless _) (fun _ _ => trivial) rfl rfl (fun x11 hx11 => hK x11 hx11)) (fun b9 K' hK => op_ret rfl rfl rfl (c_oneUnless _) (fun _ _ => trivial) rfl rfl (fun x10 hx10 => hK x10 hx10)) (fun x11 hx11 => ?_)
          refine ExDF.step (i := 20) rfl rfl (by kernel_rfl) (by kernel_rfl) rfl rfl rfl (fun _ => rfl) rfl (List.Sublist.refl _) (Alc.of rfl rfl rfl rfl rfl) (fun K' hK => op_ret rfl rfl rfl (c_from (r.Q.getD (n - q.d + r.m) zPl) (by first | assumption | exact (fun _ => ⟨rfl, rfl⟩) | exact OkPl.none hcand.2) (by first | omega | decide) (by first | omega | decide) _ _ (by omega) _ (by first | omega | exact brk_bd _)) (fun w hw => Reads.get (readsPl (i := 1) rfl hcand.2) w hw) rfl rfl (fun x14 hx14 => hK x14 hx14)) (fun b12 K' hK => op_ret rfl rfl rfl (c_from (r.Q.getD (n - q.d + r.m) zPl) (by first | assumption | exact (fun _ => ⟨rfl, rfl⟩) | exact OkPl.none hcand.2) (by first | omega | decide) (by first | omega | decide) _ _ (by omega) _ (by first | omega | exact brk_bd _)) (fun w hw => Reads.get (readsPl (i := 2) rfl hcand.2) w hw) rfl rfl (fun x13 hx13 => hK x13 hx13)) (fun x14 hx14 => ?_)
          refine ExDF.fin rfl (by kernel_rfl) rfl (List.Sublist.cons _ (List.Sublist.refl _)) (Alc.of rfl rfl rfl rfl rfl) (fun b15 => ?_)
          refine ExD.last (i := 22) rfl (by kernel_rfl) (by kernel_rfl) rfl (op_storeC (i := 0) rfl rfl rfl rfl rfl rfl rfl rfl rfl rfl ?_)
          refine ExD.done (by kernel_rfl) ?_
          rw [show (((n - q.d + r.m) : Nat) : Int) - (((n - 1 - q.d) : Nat) : Int) - 1 = (r.m : Int) by omega, hbe]
          refine Ex.conv (layEnd (perm_lt (i := 1) (j := 3) rfl rfl rfl)) ?_
          have hnok : OkPl 2 (r.P ++ [rowPl 2 (⟨(r.Q.getD (n - q.d + r.m) zPl).cost + (r.m : Int) * 1 + brk (fit (n - 1 - q.d) (n - q.d + r.m)) * 2, (r.Q.getD (n - q.d + r.m) zPl).breaks + brk (fit (n - 1 - q.d) (n - q.d + r.m)), x14.1, x14.2, (((n - 1 - q.d) : Nat) : Int) :: (r.Q.getD (n - q.d + r.m) zPl).xs⟩ : VPl)]) (⟨(r.Q.getD (n - q.d + r.m) zPl).cost + (r.m : Int) * 1 + brk (fit (n - 1 - q.d) (n - q.d + r.m)) * 2, (r.Q.getD (n - q.d + r.m) zPl).breaks + brk (fit (n - 1 - q.d) (n - q.d + r.m)), x14.1, x14.2, (((n - 1 - q.d) : Nat) : Int) :: (r.Q.getD (n - q.d + r.m) zPl).xs⟩ : VPl) := .inl ⟨by simp, hx14⟩
          have hcok := hI.cok.more (rowPl 2 (⟨(r.Q.getD (n - q.d + r.m) zPl).cost + (r.m : Int) * 1 + brk (fit (n - 1 - q.d) (n - q.d + r.m)) * 2, (r.Q.getD (n - q.d + r.m) zPl).breaks + brk (fit (n - 1 - q.d) (n - q.d + r.m)), x14.1, x14.2, (((n - 1 - q.d) : Nat) : Int) :: (r.Q.getD (n - q.d + r.m) zPl).xs⟩ : VPl))
          have hnt : ((⟨(r.Q.getD (n - q.d + r.m) zPl).cost + (r.m : Int) * 1 + brk (fit (n - 1 - q.d) (n - q.d + r.m)) * 2, (r.Q.getD (n - q.d + r.m) zPl).breaks + brk (fit (n - 1 - q.d) (n - q.d + r.m)), x14.1, x14.2, (((n - 1 - q.d) : Nat) : Int) :: (r.Q.getD (n - q.d + r.m) zPl).xs⟩ : VPl)).t = candT fit n q.d (tl fit n wo q.d) r.m := by rw [candT, ← hcand.1]; rfl
          refine Ex.drawSeqM rfl ?_
          refine ExD.take (i := 0) rfl (by kernel_rfl) (fr_loadN rfl rfl rfl rfl rfl (SegO.whole (i := 1) rfl)) ((List.Sublist.refl _)) rfl rfl rfl ?_
          refine ExD.take (i := 1) rfl (by kernel_rfl) (pureVal_ok rfl) ((List.Sublist.refl _)) rfl rfl rfl ?_
          refine ExD.take (i := 2) rfl (by kernel_rfl) (pureVal_ok rfl) ((List.Sublist.refl _)) rfl rfl rfl ?_
          refine ExD.take (i := 3) rfl (by kernel_rfl) (fr_indexAddr (sz := 3) rfl rfl rfl rfl rfl rfl (by omega)) ((List.Sublist.refl _)) rfl rfl rfl ?_
          refine ExD.take (i := 4) rfl (by kernel_rfl) (fr_loadN rfl rfl rfl rfl rfl (segJ ((n - 1 - q.d)) (Reads.row (i := 2) rfl) encPl_len rfl zPl (by omega) (by omega))) ((List.Sublist.refl _)) rfl rfl rfl ?_
          refine ExD.op (i := 5) rfl (by kernel_rfl) rfl (op_ret rfl rfl rfl (c_less (⟨(r.Q.getD (n - q.d + r.m) zPl).cost + (r.m : Int) * 1 + brk (fit (n - 1 - q.d) (n - q.d + r.m)) * 2, (r.Q.getD (n - q.d + r.m) zPl).breaks + brk (fit (n - 1 - q.d) (n - q.d + r.m)), x14.1, x14.2, (((n - 1 - q.d) : Nat) : Int) :: (r.Q.getD (n - q.d + r.m) zPl).xs⟩ : VPl) (r.Q.getD (n - 1 - q.d) zPl) (by first | omega | (simp only [List.length_cons]; omega) | (simp only [addP]; omega)) (by first | omega | (simp only [List.length_cons]; omega))) (fun w hw => ⟨Reads.get (readsPl (i := 0) rfl hnok) w hw, Reads.get (readsPl (i := 0) rfl hcok) w hw⟩) rfl rfl (fun x16 hx16 => ⟨(List.Sublist.refl _), ?_⟩))
          refine ExD.done (by kernel_rfl) ?_
          refine Ex.cond rfl (fun hb17 => ?_) (fun hb17 => ?_)
          · refine Ex.region (ExL.pures 2 rfl ?_)
            refine ExL.free (fr_loadN rfl rfl rfl rfl rfl (SegO.whole (i := 1) rfl)) rfl rfl rfl ?_
            refine ExL.free (fr_indexAddr (sz := 3) rfl rfl rfl rfl rfl rfl (by omega)) rfl rfl rfl ?_
            refine ExL.op rfl (op_storeRowF (i := 2) rfl rfl rfl rfl rfl rfl rfl rfl (room encPl_len (k := (n - 1 - q.d)) (by omega) (by simp) rfl) (List.cons_ne_nil _ _) rfl (pl_put (i := (n - 1 - q.d)) (⟨(r.Q.getD (n - q.d + r.m) zPl).cost + (r.m : Int) * 1 + brk (fit (n - 1 - q.d) (n - q.d + r.m)) * 2, (r.Q.getD (n - q.d + r.m) zPl).breaks + brk (fit (n - 1 - q.d) (n - q.d + r.m)), x14.1, x14.2, (((n - 1 - q.d) : Nat) : Int) :: (r.Q.getD (n - q.d + r.m) zPl).xs⟩ : VPl) (by omega) (by simp) rfl) ?_)
            refine ExL.nil ?_
            refine Ex.region (ExL.pures 1 rfl ?_)
            refine ExL.free (by first | exact fr_add64 rfl rfl rfl (by omega) | exact fr_add rfl rfl rfl) rfl rfl rfl ?_
            refine ExL.pures 1 rfl ?_
            refine ExL.nil ?_
            refine Hand.mk ((⟨r.m + 1, r.Q.set (n - 1 - q.d) (⟨(r.Q.getD (n - q.d + r.m) zPl).cost + (r.m : Int) * 1 + brk (fit (n - 1 - q.d) (n - q.d + r.m)) * 2, (r.Q.getD (n - q.d + r.m) zPl).breaks + brk (fit (n - 1 - q.d) (n - q.d + r.m)), x14.1, x14.2, (((n - 1 - q.d) : Nat) : Int) :: (r.Q.getD (n - q.d + r.m) zPl).xs⟩ : VPl), r.P ++ [rowPl 2 (⟨(r.Q.getD (n - q.d + r.m) zPl).cost + (r.m : Int) * 1 + brk (fit (n - 1 - q.d) (n - q.d + r.m)) * 2, (r.Q.getD (n - q.d + r.m) zPl).breaks + brk (fit (n - 1 - q.d) (n - q.d + r.m)), x14.1, x14.2, (((n - 1 - q.d) : Nat) : Int) :: (r.Q.getD (n - q.d + r.m) zPl).xs⟩ : VPl)]⟩ : ISt)) 5 [2, 0, 3, 4] ⟨agI (by first | omega | (dsimp only; omega)), trivial⟩ ⟨rfl, rfl, rfl, rfl, rfl, rfl, rfl, rfl, trivial⟩ (rfl) rfl (hI.take (by omega) (by omega) (⟨(r.Q.getD (n - q.d + r.m) zPl).cost + (r.m : Int) * 1 + brk (fit (n - 1 - q.d) (n - q.d + r.m)) * 2, (r.Q.getD (n - q.d + r.m) zPl).breaks + brk (fit (n - 1 - q.d) (n - q.d + r.m)), x14.1, x14.2, (((n - 1 - q.d) : Nat) : Int) :: (r.Q.getD (n - q.d + r.m) zPl).xs⟩ : VPl) hnt hx14 (by assumption)) (by first | omega | (dsimp only; omega))
          · refine Ex.skip ?_
            refine Ex.region (ExL.pures 1 rfl ?_)
            refine ExL.free (by first | exact fr_add64 rfl rfl rfl (by omega) | exact fr_add rfl rfl rfl) rfl rfl rfl ?_
            refine ExL.pures 1 rfl ?_
            refine ExL.nil ?_
            refine Hand.mk ((⟨r.m + 1, r.Q, r.P ++ [rowPl 2 (⟨(r.Q.getD (n - q.d + r.m) zPl).cost + (r.m : Int) * 1 + brk (fit (n - 1 - q.d) (n - q.d + r.m)) * 2, (r.Q.getD (n - q.d + r.m) zPl).breaks + brk (fit (n - 1 - q.d) (n - q.d + r.m)), x14.1, x14.2, (((n - 1 - q.d) : Nat) : Int) :: (r.Q.getD (n - q.d + r.m) zPl).xs⟩ : VPl)]⟩ : ISt)) 5 [2, 0, 3, 4] ⟨agI (by first | omega | (dsimp only; omega)), trivial⟩ ⟨rfl, rfl, rfl, rfl, rfl, rfl, rfl, rfl, trivial⟩ (rfl) rfl (hI.keep (by omega) (by omega) (⟨(r.Q.getD (n - q.d + r.m) zPl).cost + (r.m : Int) * 1 + brk (fit (n - 1 - q.d) (n - q.d + r.m)) * 2, (r.Q.getD (n - q.d + r.m) zPl).breaks + brk (fit (n - 1 - q.d) (n - q.d + r.m)), x14.1, x14.2, (((n - 1 - q.d) : Nat) : Int) :: (r.Q.getD (n - q.d + r.m) zPl).xs⟩ : VPl) hnt (by assumption)) (by first | omega | (dsimp only; omega))
      · refine ExL.nil ?_
        refine Ex.cond_f rfl ?_
        refine Ex.exit ?_
        have hmq : r.m = q.d := by omega
        rw [hmq] at hI
        have hcok := hI.cok
        have hib := hI.ibd
        have hob := hI.obd
        refine Ex.regSeq (ExL.pures 2 rfl ?_)
        refine ExL.free (fr_indexAddr (sz := 3) rfl rfl rfl rfl rfl rfl (by omega)) rfl rfl rfl ?_
        refine ExL.free (fr_loadN rfl rfl rfl rfl rfl (segJ ((n - 1 - q.d)) (Reads.row (i := 0) rfl) encPl_len rfl zPl (by omega) (by omega))) rfl rfl rfl ?_
        refine ExL.op rfl (op_alloc rfl rfl rfl rfl rfl (fun b18 => ?_))
        refine ExL.op rfl (op_storeC (i := 0) rfl rfl rfl rfl rfl rfl rfl rfl rfl rfl ?_)
        refine ExL.nil ?_
        refine Ex.regSeq (ExL.pures 1 rfl ?_)
        refine ExL.free (fr_load rfl rfl rfl rfl (CellO.blk (i := 0) rfl rfl)) rfl rfl rfl ?_
        refine ExL.pures 1 rfl ?_
        refine ExL.free (by first | exact fr_mul64 rfl rfl rfl (by omega) | exact fr_mul rfl rfl rfl) rfl rfl rfl ?_
        refine ExL.free (by first | exact fr_add64 rfl rfl rfl (by omega) | exact fr_add rfl rfl rfl) rfl rfl rfl ?_
        refine ExL.pures 1 rfl ?_
        refine ExL.op rfl (op_storeC (i := 0) rfl rfl rfl rfl rfl rfl rfl rfl rfl rfl ?_)
        refine ExL.nil ?_
        refine Ex.regSeq (ExL.pures 3 rfl ?_)
        refine ExL.bool (d := 93) rfl (fun hb19 => ?_) (fun hb19 => ?_)
        · replace hb19 := nb_t hb19
          refine ExL.pures 4 rfl ?_
          refine ExL.nil ?_
          refine Ex.cond_t rfl ?_
          refine Ex.region (ExL.pures 0 rfl ?_)
          refine ExL.free (fr_loadN rfl rfl rfl rfl rfl (SegO.whole (i := 0) rfl)) rfl rfl rfl ?_
          refine ExL.op rfl (op_storeC (i := 3) rfl rfl rfl rfl rfl rfl rfl rfl rfl rfl ?_)
          refine ExL.pures 1 rfl ?_
          refine ExL.nil ?_
          refine Ex.region (ExL.pures 1 rfl ?_)
          refine ExL.free (by first | exact fr_sub64 rfl rfl rfl (by omega) | exact fr_sub rfl rfl rfl) rfl rfl rfl ?_
          refine ExL.pures 1 rfl ?_
          refine ExL.nil ?_
          obtain ⟨hB1, hB2⟩ := hI.new hwo (by first | exact .inl (by assumption) | exact .inr (by assumption))
          refine Hand.mk ((⟨q.d + 1, r.Q, r.P, addP (r.Q.getD (n - 1 - q.d) zPl) (((n - 1 - q.d) : Nat) : Int)⟩ : BSt)) 5 [1, 2, 3, 4] ⟨agB hB2.symm, agI (by first | omega | (dsimp only; omega)), trivial⟩ ⟨rfl, rfl, rfl, rfl, rfl, rfl, trivial⟩ (rfl) rfl (hB1) (by first | omega | (dsimp only; omega))
        · replace hb19 := nb_f hb19
          refine ExL.free (fr_loadN rfl rfl rfl rfl rfl (SegO.whole (i := 0) rfl)) rfl rfl rfl ?_
          refine ExL.free (fr_loadN rfl rfl rfl rfl rfl (SegO.whole (i := 3) rfl)) rfl rfl rfl ?_
          refine ExL.op rfl (op_ret rfl rfl rfl (c_less (addP (r.Q.getD (n - 1 - q.d) zPl) (((n - 1 - q.d) : Nat) : Int)) q.o (by first | omega | (simp only [List.length_cons]; omega) | (simp only [addP]; omega)) (by first | omega | (simp only [List.length_cons]; omega))) (fun w hw => ⟨Reads.get (readsPl (i := 2) rfl (hcok.add _)) w hw, Reads.get (readsPl (i := 2) rfl hI.ok) w hw⟩) rfl rfl (fun x20 hx20 => ?_))
          refine ExL.pures 1 rfl ?_
          refine ExL.nil ?_
          refine Ex.cond rfl (fun hb21 => ?_) (fun hb21 => ?_)
          · refine Ex.region (ExL.pures 0 rfl ?_)
            refine ExL.free (fr_loadN rfl rfl rfl rfl rfl (SegO.whole (i := 0) rfl)) rfl rfl rfl ?_
            refine ExL.op rfl (op_storeC (i := 3) rfl rfl rfl rfl rfl rfl rfl rfl rfl rfl ?_)
            refine ExL.pures 1 rfl ?_
            refine ExL.nil ?_
            refine Ex.region (ExL.pures 1 rfl ?_)
            refine ExL.free (by first | exact fr_sub64 rfl rfl rfl (by omega) | exact fr_sub rfl rfl rfl) rfl rfl rfl ?_
            refine ExL.pures 1 rfl ?_
            refine ExL.nil ?_
            obtain ⟨hB1, hB2⟩ := hI.new hwo (by first | exact .inl (by assumption) | exact .inr (by assumption))
            refine Hand.mk ((⟨q.d + 1, r.Q, r.P, addP (r.Q.getD (n - 1 - q.d) zPl) (((n - 1 - q.d) : Nat) : Int)⟩ : BSt)) 5 [1, 2, 3, 4] ⟨agB hB2.symm, agI (by first | omega | (dsimp only; omega)), trivial⟩ ⟨rfl, rfl, rfl, rfl, rfl, rfl, trivial⟩ (rfl) rfl (hB1) (by first | omega | (dsimp only; omega))
          · refine Ex.skip ?_
            refine Ex.region (ExL.pures 1 rfl ?_)
            refine ExL.free (by first | exact fr_sub64 rfl rfl rfl (by omega) | exact fr_sub rfl rfl rfl) rfl rfl rfl ?_
            refine ExL.pures 1 rfl ?_
            refine ExL.nil ?_
            obtain ⟨hB1, hB2⟩ := hI.old hwo (by assumption) (by assumption)
            refine Hand.mk ((⟨q.d + 1, r.Q, r.P, q.o⟩ : BSt)) 5 [1, 2, 3, 4] ⟨agB (by rw [hB2]; assumption), agI (by first | omega | (dsimp only; omega)), trivial⟩ ⟨rfl, rfl, rfl, rfl, rfl, rfl, trivial⟩ (rfl) rfl (hB1) (by first | omega | (dsimp only; omega))
  · refine ExL.nil ?_
    refine Ex.cond_f rfl ?_
    refine Ex.exit ?_
    have hdn2 : q.d = n := by omega
    have hout := hI.out
    rw [hdn2] at hout
    refine Ex.regSeq (ExL.pures 0 rfl ?_)
    refine ExL.free (fr_loadN rfl rfl rfl rfl rfl (SegO.whole (i := 2) rfl)) rfl rfl rfl ?_
    refine ExL.op rfl (op_storeC (i := 3) rfl rfl rfl rfl rfl rfl rfl rfl rfl rfl ?_)
    refine ExL.nil ?_
    refine Ex.ret ?_
    refine RetQ.mk (q.o, q.P) rfl (.cell rfl (.many rfl rfl rfl (SegO.whole (i := 3) rfl)) .nil) (rfl) [1] (rfl) rfl (⟨hout, hI.ok⟩)
end Go.Proofs.YtddflaaccmjoeaaGreatDoor

/- What these functions of the program hand back, each proved by walking its operations. -/
set_option linter.unusedVariables false
set_option linter.unusedSimpArgs false
set_option maxRecDepth 4000
namespace Go.Proofs.YtddflaaccmjoeaaGreatDoor
open Go Go.Sx Go.RowKit Go.W Go.Proofs
attribute [local irreducible] Ex ExL ExD Op1 Free RetQ MutQ Reads CellO SegO LoadsAs
theorem e_7 : Enters Tryz.prog 7 := Enters.of Tryz.func7 rfl
theorem c_sStory (s : List Int) (hu : Nums 255 s) (As : Option Addr) (cs : Nat) (hls : s.length ≤ maxLen) (l : List VP) (Al : Option Addr) (cl : Nat) (hll : l.length ≤ maxLen) (f : VP) : Ret Tryz.prog 7 [.slice As s.length cs, .slice Al l.length cl, .agg (encP f).toArray] (fun w => Rd w As (s.flatMap (eI .u8)) ∧ Rd w Al (l.flatMap encP)) (fun x : (Option Addr × Nat) × (Option Addr × Nat) => .tuple #[.agg (encY x.1.1 x.1.2 x.2.1 x.2.2 (storyV s l f).1).toArray, .int .i64 (storyV s l f).2]) (fun x => [.row (.slice x.1.1 (storyV s l f).1.kept.length x.1.2) 2 1 (storyV s l f).1.kept.length ((storyV s l f).1.kept.flatMap (eI .i64)), .row (.slice x.2.1 (storyV s l f).1.breaks.length x.2.2) 2 1 (storyV s l f).1.breaks.length ((storyV s l f).1.breaks.flatMap (eI .i64))]) (fun x => True) := by
  refine Ret.of e_7 Tryz.func7 rfl Tryz.ntmps7 rfl rfl (fun w hpre => ?_)
  have hs := hpre.1.base
  have hl := hpre.2.base
  have hm0 : maxLen = 9223372036854775807 := rfl
  refine Ex.regSeq (ExL.pures 0 rfl ?_)
  refine ExL.op rfl (op_box rfl rfl rfl rfl rfl (fun b1 => ?_))
  refine ExL.op rfl (op_alloc rfl rfl rfl rfl rfl (fun b2 => ?_))
  refine ExL.pures 1 rfl ?_
  refine ExL.nil ?_
  refine Ex.seq ?_
  refine Ex.regSeq (ExL.pures 2 rfl ?_)
  refine ExL.free (fr_loadN rfl rfl rfl rfl rfl (SegO.whole (i := 1) rfl)) rfl rfl rfl ?_
  refine ExL.op rfl (op_ret rfl rfl rfl (c_l04Asked s (by assumption) _ _ (by omega) l _ _ (by omega) f) (fun w hw => ⟨Reads.get (Reads.old hs) w hw, Reads.get (Reads.old hl) w hw⟩) rfl rfl (fun x3 hx3 => ?_))
  refine ExL.pures 1 rfl ?_
  refine ExL.nil ?_
  refine Ex.regSeq (ExL.pures 1 rfl ?_)
  refine ExL.neq rfl rfl rfl rfl rfl rfl (fun h4 => ?_) (fun h4 => ?_)
  · refine ExL.nil ?_
    refine Ex.cond_t rfl ?_
    obtain ⟨hask, hcod⟩ := askC_1 (by omega)
    rw [hcod]
    have hst := sto_1 hask
    refine Ex.nilRow 2 1 ?_
    refine Ex.nilRow 2 1 ?_
    refine Ex.regSeq (ExL.pures 0 rfl ?_)
    refine ExL.free (fr_build (cells := encY none 0 none 0 ⟨[], [], 0⟩) rfl rfl rfl (by kernel_rfl)) rfl rfl rfl ?_
    refine ExL.pures 1 rfl ?_
    refine ExL.op rfl (op_storeC (i := 2) rfl rfl rfl rfl rfl rfl rfl rfl rfl rfl ?_)
    refine ExL.pures 1 rfl ?_
    refine ExL.nil ?_
    refine Ex.ret ?_
    refine RetQ.mk ((none, 0), (none, 0)) rfl (.cell rfl (.many rfl rfl rfl (SegO.whole (i := 2) rfl)) (.tmp rfl .nil)) (t2 (by rw [hst]; first | done | rfl) (vI (by rw [hst]; first | done | rfl))) [0, 1] (by rw [hst]; first | done | rfl) rfl (trivial)
  · refine ExL.nil ?_
    refine Ex.cond_f rfl ?_
    refine Ex.skip ?_
    have hask := askC_0 (s := s) (l := l) (f := f) (by omega)
    obtain ⟨hL, hf⟩ := ask_of hask
    have hLl := hL.len
    have hst := sto_0 hask
    refine Ex.regSeq (ExL.pures 2 rfl ?_)
    refine ExL.free (fr_loadN rfl rfl rfl rfl rfl (SegO.whole (i := 1) rfl)) rfl rfl rfl ?_
    refine ExL.op rfl (op_ret rfl rfl rfl (c_l04Best s (by assumption) _ _ (by omega) l _ _ (by omega) (by assumption) f (by assumption)) (fun w hw => ⟨Reads.get (Reads.old hs) w hw, Reads.get (Reads.old hl) w hw⟩) rfl rfl (fun x5 hx5 => ?_))
    refine ExL.op rfl (op_storeC (i := 2) rfl rfl rfl rfl rfl rfl rfl rfl rfl rfl ?_)
    refine ExL.pures 1 rfl ?_
    refine ExL.nil ?_
    refine Ex.ret ?_
    refine RetQ.mk ((x5.1.1, x5.1.2), (x5.2.1, x5.2.2)) rfl (.cell rfl (.many rfl rfl rfl (SegO.whole (i := 2) rfl)) (.tmp rfl .nil)) (t2 (by rw [hst]; first | done | rfl) (vI (by rw [hst]; first | done | rfl))) [0, 1] (by rw [hst]; first | done | rfl) rfl (trivial)
end Go.Proofs.YtddflaaccmjoeaaGreatDoor

/- What these functions of the program hand back, each proved by walking its operations. -/
set_option linter.unusedVariables false
set_option linter.unusedSimpArgs false
set_option maxRecDepth 4000
namespace Go.Proofs.YtddflaaccmjoeaaGreatDoor
open Go Go.Sx Go.RowKit Go.W Go.Proofs
attribute [local irreducible] Ex ExL ExD Op1 Free RetQ MutQ Reads CellO SegO LoadsAs
theorem e_6 : Enters Tryz.prog 6 := Enters.of Tryz.func6 rfl
theorem c_iStory_f (s : List Int) (hu : Nums 255 s) (As : Option Addr) (cs : Nat) (hls : s.length ≤ maxLen) (l : List VP) (Al : Option Addr) (cl : Nat) (hll : l.length ≤ maxLen) (f : VP) (hask : askS s l f = false) : Ret Tryz.prog 6 [.slice As s.length cs, .slice Al l.length cl, .agg (encP f).toArray] (fun w => Rd w As (s.flatMap (eI .u8)) ∧ Rd w Al (l.flatMap encP)) (fun x : (Option Addr × Nat) × (Option Addr × Nat) => .tuple #[.agg (encY x.1.1 x.1.2 x.2.1 x.2.2 (storyV s l f).1).toArray, .int .i64 (storyV s l f).2]) (fun x => [.row (.slice x.1.1 (storyV s l f).1.kept.length x.1.2) 2 1 (storyV s l f).1.kept.length ((storyV s l f).1.kept.flatMap (eI .i64)), .row (.slice x.2.1 (storyV s l f).1.breaks.length x.2.2) 2 1 (storyV s l f).1.breaks.length ((storyV s l f).1.breaks.flatMap (eI .i64))]) (fun x => True) := by
  refine Ret.of e_6 Tryz.func6 rfl Tryz.ntmps6 rfl rfl (fun w hpre => ?_)
  have hs := hpre.1.base
  have hl := hpre.2.base
  have hm0 : maxLen = 9223372036854775807 := rfl
  have hst := sto_1 hask
  refine Ex.regSeq (ExL.pures 0 rfl ?_)
  refine ExL.op rfl (op_box rfl rfl rfl rfl rfl (fun b1 => ?_))
  refine ExL.op rfl (op_alloc rfl rfl rfl rfl rfl (fun b2 => ?_))
  refine ExL.pures 1 rfl ?_
  refine ExL.nil ?_
  refine Ex.regSeq (ExL.pures 2 rfl ?_)
  refine ExL.free (fr_loadN rfl rfl rfl rfl rfl (SegO.whole (i := 1) rfl)) rfl rfl rfl ?_
  refine ExL.op rfl (op_ret rfl rfl rfl (c_detOf_f s (by assumption) _ _ (by omega) l _ _ (by omega) f hask) (fun w hw => ⟨Reads.get (Reads.old hs) w hw, Reads.get (Reads.old hl) w hw⟩) rfl rfl (fun x3 hx3 => ?_))
  refine ExL.pures 1 rfl ?_
  refine ExL.nil ?_
  refine Ex.seq ?_
  refine Ex.regSeq (ExL.pures 1 rfl ?_)
  refine ExL.free (fr_eql_ptr_n rfl rfl rfl rfl) rfl rfl rfl ?_
  refine ExL.nil ?_
  refine Ex.cond_t rfl ?_
  refine Ex.nilRow 2 1 ?_
  refine Ex.nilRow 2 1 ?_
  refine Ex.regSeq (ExL.pures 0 rfl ?_)
  refine ExL.free (fr_build (cells := encY none 0 none 0 ⟨[], [], 0⟩) rfl rfl rfl (by kernel_rfl)) rfl rfl rfl ?_
  refine ExL.op rfl (op_storeC (i := 2) rfl rfl rfl rfl rfl rfl rfl rfl rfl rfl ?_)
  refine ExL.pures 1 rfl ?_
  refine ExL.nil ?_
  refine Ex.ret ?_
  refine RetQ.mk ((none, 0), (none, 0)) rfl (.cell rfl (.many rfl rfl rfl (SegO.whole (i := 2) rfl)) (.tmp rfl .nil)) (t2 (by rw [hst]; first | done | rfl) (vI (by rw [hst]; first | done | rfl))) [0, 1] (by rw [hst]; first | done | rfl) rfl (trivial)
theorem c_iStory_t (s : List Int) (hu : Nums 255 s) (As : Option Addr) (cs : Nat) (hls : s.length ≤ maxLen) (l : List VP) (Al : Option Addr) (cl : Nat) (hll : l.length ≤ maxLen) (f : VP) (hask : askS s l f = true) : Ret Tryz.prog 6 [.slice As s.length cs, .slice Al l.length cl, .agg (encP f).toArray] (fun w => Rd w As (s.flatMap (eI .u8)) ∧ Rd w Al (l.flatMap encP)) (fun x : (Option Addr × Nat) × (Option Addr × Nat) => .tuple #[.agg (encY x.1.1 x.1.2 x.2.1 x.2.2 (storyV s l f).1).toArray, .int .i64 (storyV s l f).2]) (fun x => [.row (.slice x.1.1 (storyV s l f).1.kept.length x.1.2) 2 1 (storyV s l f).1.kept.length ((storyV s l f).1.kept.flatMap (eI .i64)), .row (.slice x.2.1 (storyV s l f).1.breaks.length x.2.2) 2 1 (storyV s l f).1.breaks.length ((storyV s l f).1.breaks.flatMap (eI .i64))]) (fun x => True) := by
  refine Ret.of e_6 Tryz.func6 rfl Tryz.ntmps6 rfl rfl (fun w hpre => ?_)
  have hs := hpre.1.base
  have hl := hpre.2.base
  have hm0 : maxLen = 9223372036854775807 := rfl
  obtain ⟨hL, hf⟩ := ask_of hask
  have hLl := hL.len
  have hst := sto_0 hask
  refine Ex.regSeq (ExL.pures 0 rfl ?_)
  refine ExL.op rfl (op_box rfl rfl rfl rfl rfl (fun b1 => ?_))
  refine ExL.op rfl (op_alloc rfl rfl rfl rfl rfl (fun b2 => ?_))
  refine ExL.pures 1 rfl ?_
  refine ExL.nil ?_
  refine Ex.regSeq (ExL.pures 2 rfl ?_)
  refine ExL.free (fr_loadN rfl rfl rfl rfl rfl (SegO.whole (i := 1) rfl)) rfl rfl rfl ?_
  refine ExL.op rfl (op_ret rfl rfl rfl (c_detOf_t s (by assumption) _ _ (by omega) l _ _ (by omega) f hask) (fun w hw => ⟨Reads.get (Reads.old hs) w hw, Reads.get (Reads.old hl) w hw⟩) rfl rfl (fun x3 hx3 => ?_))
  refine ExL.pures 1 rfl ?_
  refine ExL.nil ?_
  refine Ex.seq ?_
  refine Ex.regSeq (ExL.pures 1 rfl ?_)
  refine ExL.free (fr_eql_ptr_s rfl rfl rfl rfl) rfl rfl rfl ?_
  refine ExL.nil ?_
  refine Ex.cond_f rfl ?_
  refine Ex.skip ?_
  refine Ex.regSeq (ExL.pures 1 rfl ?_)
  refine ExL.op rfl (op_ret rfl rfl rfl (c_best2 (fitsF s l f) l.length (by omega) x3.K hx3.1 hx3.2 _ _ _ _ _ _ _ (-1)) (fun w hw => ⟨Reads.get (Reads.blk (i := 0) rfl) w hw, Reads.get (Reads.row (i := 1) rfl) w hw, fun k hk => Reads.get (readsX (i := 2) rfl hk) w hw⟩) rfl rfl (fun x4 hx4 => ?_))
  obtain ⟨hbt, hok⟩ := hx4
  have hkt : x4.1.xs = (stK (fitsF s l f) l.length) := by have := congrArg (·.kept) hbt; rw [best_same.2] at this; exact this
  have hbc : x4.1.cost = (bstV (fitsF s l f) l.length l.length).cost := by have := congrArg (·.cost) hbt; rw [best_same.1] at this; exact this
  have hen : encPl x4.1 = [.int .i64 (bstV (fitsF s l f) l.length l.length).cost, .int .i64 x4.1.breaks, .slice x4.1.A (stK (fitsF s l f) l.length).length x4.1.c] := by unfold encPl; rw [hbc, hkt]
  rw [hen]
  refine ExL.op rfl (op_alloc rfl rfl rfl rfl rfl (fun b5 => ?_))
  refine ExL.op rfl (op_storeC (i := 0) rfl rfl rfl rfl rfl rfl rfl rfl rfl rfl ?_)
  refine ExL.nil ?_
  refine Ex.conv (liftOk hok (perm_at (i := 1) rfl)) ?_
  rw [hkt]
  have hkl := stK_len (fitsF s l f) l.length
  refine Ex.regSeq (ExL.pures 1 rfl ?_)
  refine ExL.free (fr_load rfl rfl rfl rfl (CellO.blk (i := 1) rfl rfl)) rfl rfl rfl ?_
  refine ExL.pures 1 rfl ?_
  refine ExL.free (fr_load rfl rfl rfl rfl (CellO.blk (i := 1) rfl rfl)) rfl rfl rfl ?_
  refine ExL.free (fr_build (cells := [.slice x4.1.A (stK (fitsF s l f) l.length).length x4.1.c, .slice none 0 0, .int .i64 (bstV (fitsF s l f) l.length l.length).cost]) rfl rfl rfl (by kernel_rfl)) rfl rfl rfl ?_
  refine ExL.op rfl (op_alloc rfl rfl rfl rfl rfl (fun b6 => ?_))
  refine ExL.op rfl (op_storeC (i := 0) rfl rfl rfl rfl rfl rfl rfl rfl rfl rfl ?_)
  refine ExL.nil ?_
  refine Ex.seq ?_
  refine Ex.regSeq (ExL.pures 1 rfl ?_)
  refine ExL.nil ?_
  refine Ex.block ?_
  refine Ex.nilRow 2 1 ?_
  refine Ex.loopK (X := Nat × Option Addr × Nat) (fun q => [(11, .int .i64 ((q.1 : Int) + 1))]) (fun q => [.blk b6 [.slice x4.1.A (stK (fitsF s l f) l.length).length x4.1.c, .slice q.2.1 (pL (fitsF s l f) (stK (fitsF s l f) l.length) q.1).length q.2.2, .int .i64 (bstV (fitsF s l f) l.length l.length).cost] 32, .row (.slice q.2.1 (pL (fitsF s l f) (stK (fitsF s l f) l.length) q.1).length q.2.2) 2 1 (pL (fitsF s l f) (stK (fitsF s l f) l.length) q.1).length ((pL (fitsF s l f) (stK (fitsF s l f) l.length) q.1).flatMap (eI .i64))]) (fun q => q.1 + 1 ≤ (stK (fitsF s l f) l.length).length ∨ q.1 = 0) (fun q => (stK (fitsF s l f) l.length).length - q.1) (0, (none, 0)) [(6, _), (7, _), (8, _), (9, _), (10, _)] [_, _, _, _, _, _] 9 [1, 0, 2, 3, 4, 5, 6, 7] ⟨agI (by omega), trivial⟩ ⟨rfl, rfl, rfl, rfl, rfl, trivial⟩ (rfl) rfl (.inr rfl) (fun q hI => ?_)
  have hI : q.1 + 1 ≤ (stK (fitsF s l f) l.length).length ∨ q.1 = 0 := hI
  have hpl := pL_len (fit := (fitsF s l f)) (K := (stK (fitsF s l f) l.length)) q.1
  refine Ex.seq ?_
  refine Ex.regSeq (ExL.pures 2 rfl ?_)
  refine ExL.free (fr_load rfl rfl rfl rfl (CellO.blk (i := 3) rfl rfl)) rfl rfl rfl ?_
  refine ExL.pures 1 rfl ?_
  refine ExL.lss rfl rfl rfl rfl rfl rfl (fun h7 => ?_) (fun h7 => ?_)
  · refine ExL.nil ?_
    refine Ex.cond_t rfl ?_
    refine Ex.skip ?_
    refine Ex.seq ?_
    refine Ex.block ?_
    obtain ⟨a, b_, ha, hb, hab, hbn⟩ := stK_nat (fit := (fitsF s l f)) (n := l.length) (k := q.1) (by omega)
    obtain ⟨hxl, hbe⟩ := canK_bool hx3.2 (i := a) (j := b_) (by omega) hab hbn
    have hdl := hx3.1
    refine Ex.drawSeqM rfl ?_
    refine ExD.take (i := 0) rfl (by kernel_rfl) (pureVal_ok rfl) ((List.Sublist.refl _)) rfl rfl rfl ?_
    refine ExD.take (i := 1) rfl (by kernel_rfl) (pureVal_ok rfl) ((List.Sublist.refl _)) rfl rfl rfl ?_
    refine ExD.take (i := 2) rfl (by kernel_rfl) (pureVal_ok rfl) ((List.Sublist.refl _)) rfl rfl rfl ?_
    refine ExD.take (i := 3) rfl (by kernel_rfl) (fr_load rfl rfl rfl rfl (CellO.blk (i := 4) rfl rfl)) ((List.Sublist.refl _)) rfl rfl rfl ?_
    refine ExD.take (i := 4) rfl (by kernel_rfl) (pureVal_ok rfl) ((List.Sublist.refl _)) rfl rfl rfl ?_
    refine ExD.take (i := 5) rfl (by kernel_rfl) (fr_load rfl rfl rfl rfl (CellO.blk (i := 3) rfl rfl)) ((List.Sublist.refl _)) rfl rfl rfl ?_
    refine ExD.take (i := 6) rfl (by kernel_rfl) (pureVal_ok rfl) ((List.Sublist.refl _)) rfl rfl rfl ?_
    refine ExD.take (i := 7) rfl (by kernel_rfl) (by first | exact fr_sub64 rfl rfl rfl (by omega) | exact fr_sub rfl rfl rfl) ((List.Sublist.refl _)) rfl rfl rfl ?_
    refine ExD.take (i := 8) rfl (by kernel_rfl) (fr_indexAddrR (sz := 1) 2 rfl rfl rfl rfl rfl rfl (by omega)) ((List.Sublist.refl _)) rfl rfl rfl ?_
    refine ExD.take (i := 9) rfl (by kernel_rfl) (fr_load (v := .int .i64 (a : Int)) rfl rfl rfl rfl (cellJ (i := ((q.1 : Int) + 1 - 1)) q.1 (Reads.row (i := 2) rfl) (eI_len .i64) 0 0 rfl (by omega) (by omega) (by show some (Value.int .i64 _) = _; rw [ha]))) ((List.Sublist.refl _)) rfl rfl rfl ?_
    refine ExD.take (i := 10) rfl (by kernel_rfl) (fr_indexAddr (sz := 1) rfl rfl rfl rfl rfl rfl (by omega)) ((List.Sublist.refl _)) rfl rfl rfl ?_
    refine ExD.take (i := 11) rfl (by kernel_rfl) (fr_load rfl rfl rfl rfl (by first | exact cellN (Reads.row (i := 5) rfl) encX_len zX 0 rfl (by omega) rfl | exact cellF (Reads.row (i := 5) rfl) encX_len zX 0 rfl (by omega) rfl)) ((List.Sublist.refl _)) rfl rfl rfl ?_
    refine ExD.take (i := 12) rfl (by kernel_rfl) (pureVal_ok rfl) ((List.Sublist.refl _)) rfl rfl rfl ?_
    refine ExD.take (i := 13) rfl (by kernel_rfl) (fr_load rfl rfl rfl rfl (CellO.blk (i := 3) rfl rfl)) ((List.Sublist.refl _)) rfl rfl rfl ?_
    refine ExD.take (i := 14) rfl (by kernel_rfl) (pureVal_ok rfl) ((List.Sublist.refl _)) rfl rfl rfl ?_
    refine ExD.take (i := 15) rfl (by kernel_rfl) (fr_indexAddrR (sz := 1) 2 rfl rfl rfl rfl rfl rfl (by omega)) ((List.Sublist.refl _)) rfl rfl rfl ?_
    refine ExD.take (i := 16) rfl (by kernel_rfl) (fr_load (v := .int .i64 (b_ : Int)) rfl rfl rfl rfl (cellJ (i := ((q.1 : Int) + 1)) (q.1 + 1) (Reads.row (i := 2) rfl) (eI_len .i64) 0 0 rfl (by omega) (by omega) (by show some (Value.int .i64 _) = _; rw [hb]))) ((List.Sublist.refl _)) rfl rfl rfl ?_
    refine ExD.take (i := 17) rfl (by kernel_rfl) (fr_indexAddrF (readsX (i := 6) rfl (k := a) (by omega)) eB_len rfl rfl rfl rfl rfl rfl (by omega)) ((List.Sublist.refl _)) rfl rfl rfl ?_
    refine ExD.take (i := 18) rfl (by kernel_rfl) (fr_load rfl rfl rfl rfl (by first | exact cellN (readsX (i := 6) rfl (k := a) (by omega)) eB_len false 0 rfl (by omega) rfl | exact cellF (readsX (i := 6) rfl (k := a) (by omega)) eB_len false 0 rfl (by omega) rfl)) ((List.Sublist.refl _)) rfl rfl rfl ?_
    refine ExD.take (i := 19) rfl (by kernel_rfl) (pureVal_ok rfl) ((List.Sublist.refl _)) rfl rfl rfl ?_
    refine ExD.done (by kernel_rfl) ?_
    refine Ex.cond rfl (fun hb8 => ?_) (fun hb8 => ?_)
    · replace hb8 := nb_t hb8
      refine Ex.drawI [0, 2, 3, 4, 5, 6, 7] rfl rfl ?_
      refine ExD.take (i := 0) rfl (by kernel_rfl) (pureVal_ok rfl) ((List.Sublist.cons_cons _ (List.Sublist.cons _ (List.Sublist.refl _)))) rfl rfl rfl ?_
      refine ExD.take (i := 1) rfl (by kernel_rfl) (fr_load rfl rfl rfl rfl (CellO.blk (i := 0) rfl rfl)) ((List.Sublist.cons_cons _ (List.Sublist.cons _ (List.Sublist.refl _)))) rfl rfl rfl ?_
      refine ExD.take (i := 2) rfl (by kernel_rfl) (pureVal_ok rfl) ((List.Sublist.cons_cons _ (List.Sublist.cons _ (List.Sublist.refl _)))) rfl rfl rfl ?_
      refine ExD.take (i := 3) rfl (by kernel_rfl) (fr_load rfl rfl rfl rfl (CellO.blk (i := 2) rfl rfl)) ((List.Sublist.cons_cons _ (List.Sublist.cons _ (List.Sublist.refl _)))) rfl rfl rfl ?_
      refine ExD.take (i := 4) rfl (by kernel_rfl) (pureVal_ok rfl) ((List.Sublist.cons_cons _ (List.Sublist.cons _ (List.Sublist.refl _)))) rfl rfl rfl ?_
      refine ExD.take (i := 5) rfl (by kernel_rfl) (fr_indexAddrR (sz := 1) 1 rfl rfl rfl rfl rfl rfl (by omega)) ((List.Sublist.cons_cons _ (List.Sublist.cons _ (List.Sublist.refl _)))) rfl rfl rfl ?_
      refine ExD.take (i := 6) rfl (by kernel_rfl) (fr_load rfl rfl rfl rfl (cellJ (i := ((q.1 : Int) + 1)) (q.1 + 1) (Reads.row (i := 1) rfl) (eI_len .i64) 0 0 rfl (by omega) (by omega) rfl)) ((List.Sublist.cons_cons _ (List.Sublist.cons _ (List.Sublist.refl _)))) rfl rfl rfl ?_
      refine ExD.op (i := 7) rfl (by kernel_rfl) rfl (op_buildSlice (sz := 1) rfl rfl rfl rfl rfl rfl rfl rfl (by decide) rfl rfl rfl (fun r9 => ⟨(List.Sublist.cons _ (List.Sublist.cons_cons _ (List.Sublist.cons _ (List.Sublist.refl _)))), ?_⟩))
      refine ExD.op (i := 8) rfl (by kernel_rfl) rfl (op_append (sz := 1) (bytes := 8) (i := 2) rfl rfl rfl rfl (Reads.row (i := 0) rfl) rfl (fun e => nomatch e) rfl rfl rfl rfl (by constructor <;> first | omega | (unfold maxLen; omega)) rfl rfl (fun A10 cA10 => ⟨(List.Sublist.cons _ (List.Sublist.cons_cons _ (List.Sublist.cons _ (List.Sublist.refl _)))), ?_⟩))
      refine ExD.take (i := 9) rfl (by kernel_rfl) (pureVal_ok rfl) ((List.Sublist.cons _ (List.Sublist.cons_cons _ (List.Sublist.cons _ (List.Sublist.refl _))))) rfl rfl rfl ?_
      refine ExD.last (i := 10) rfl (by kernel_rfl) (by kernel_rfl) rfl (op_storeC (i := 1) rfl rfl rfl rfl rfl rfl rfl rfl rfl rfl ?_)
      refine ExD.done (by kernel_rfl) ?_
      refine Ex.region (ExL.pures 1 rfl ?_)
      refine ExL.free (by first | exact fr_add64 rfl rfl rfl (by omega) | exact fr_add rfl rfl rfl) rfl rfl rfl ?_
      refine ExL.pures 1 rfl ?_
      refine ExL.nil ?_
      refine Hand.mk ((q.1 + 1, (A10, cA10))) 9 [1, 2, 3, 4, 5, 6, 7, 8] ⟨agI (by push_cast; omega), trivial⟩ ⟨rfl, rfl, rfl, rfl, rfl, trivial⟩ (by first | (rw [pL_y ha hb (by rw [← hbe]; assumption), List.length_append, List.flatMap_append]; rfl) | (rw [pL_n ha hb (by rw [← hbe]; assumption)]; first | done | rfl)) rfl ((by dsimp only; omega)) ((by dsimp only; omega))
    · replace hb8 := nb_f hb8
      refine Ex.skip ?_
      refine Ex.region (ExL.pures 1 rfl ?_)
      refine ExL.free (by first | exact fr_add64 rfl rfl rfl (by omega) | exact fr_add rfl rfl rfl) rfl rfl rfl ?_
      refine ExL.pures 1 rfl ?_
      refine ExL.nil ?_
      refine Hand.mk ((q.1 + 1, (q.2.1, q.2.2))) 8 [0, 1, 2, 3, 4, 5, 6, 7] ⟨agI (by push_cast; omega), trivial⟩ ⟨rfl, rfl, rfl, rfl, rfl, trivial⟩ (by first | (rw [pL_y ha hb (by rw [← hbe]; assumption), List.length_append, List.flatMap_append]; rfl) | (rw [pL_n ha hb (by rw [← hbe]; assumption)]; first | done | rfl)) rfl ((by dsimp only; omega)) ((by dsimp only; omega))
  · refine ExL.nil ?_
    refine Ex.cond_f rfl ?_
    refine Ex.exit ?_
    have hpa := pL_all (fit := (fitsF s l f)) (n := l.length) (k := q.1) (by omega) hI
    rw [hpa]
    refine Ex.regSeq (ExL.pures 0 rfl ?_)
    refine ExL.free (fr_loadN rfl rfl rfl rfl rfl (SegO.whole (i := 0) rfl)) rfl rfl rfl ?_
    refine ExL.op rfl (op_storeC (i := 7) rfl rfl rfl rfl rfl rfl rfl rfl rfl rfl ?_)
    refine ExL.pures 1 rfl ?_
    refine ExL.nil ?_
    refine Ex.ret ?_
    refine RetQ.mk ((x4.1.A, x4.1.c), (q.2.1, q.2.2)) rfl (.cell rfl (.many rfl rfl rfl (SegO.whole (i := 7) rfl)) (.tmp rfl .nil)) (t2 (by rw [hst]; first | done | rfl) (vI (by rw [hst]; first | done | rfl))) [2, 1] (by rw [hst]; first | done | rfl) rfl (trivial)
end Go.Proofs.YtddflaaccmjoeaaGreatDoor

/- What these functions of the program hand back, each proved by walking its operations. -/
set_option linter.unusedVariables false
set_option linter.unusedSimpArgs false
set_option maxRecDepth 4000
namespace Go.Proofs.YtddflaaccmjoeaaGreatDoor
open Go Go.Sx Go.RowKit Go.W Go.Proofs
attribute [local irreducible] Ex ExL ExD Op1 Free RetQ MutQ Reads CellO SegO LoadsAs
theorem c_iStory (s : List Int) (hu : Nums 255 s) (As : Option Addr) (cs : Nat) (hls : s.length ≤ maxLen) (l : List VP) (Al : Option Addr) (cl : Nat) (hll : l.length ≤ maxLen) (f : VP) : Ret Tryz.prog 6 [.slice As s.length cs, .slice Al l.length cl, .agg (encP f).toArray] (fun w => Rd w As (s.flatMap (eI .u8)) ∧ Rd w Al (l.flatMap encP)) (fun x : (Option Addr × Nat) × (Option Addr × Nat) => .tuple #[.agg (encY x.1.1 x.1.2 x.2.1 x.2.2 (storyV s l f).1).toArray, .int .i64 (storyV s l f).2]) (fun x => [.row (.slice x.1.1 (storyV s l f).1.kept.length x.1.2) 2 1 (storyV s l f).1.kept.length ((storyV s l f).1.kept.flatMap (eI .i64)), .row (.slice x.2.1 (storyV s l f).1.breaks.length x.2.2) 2 1 (storyV s l f).1.breaks.length ((storyV s l f).1.breaks.flatMap (eI .i64))]) (fun x => True) := by
  cases h : askS s l f with
  | false => exact c_iStory_f s hu As cs hls l Al cl hll f h
  | true => exact c_iStory_t s hu As cs hls l Al cl hll f h
end Go.Proofs.YtddflaaccmjoeaaGreatDoor

/- What these functions of the program hand back, each proved by walking its operations. -/
set_option linter.unusedVariables false
set_option linter.unusedSimpArgs false
set_option maxRecDepth 4000
namespace Go.Proofs.YtddflaaccmjoeaaGreatDoor
open Go Go.Sx Go.RowKit Go.W Go.Proofs
attribute [local irreducible] Ex ExL ExD Op1 Free RetQ MutQ Reads CellO SegO LoadsAs
end Go.Proofs.YtddflaaccmjoeaaGreatDoor

/- What these functions of the program hand back, each proved by walking its operations. -/
set_option linter.unusedVariables false
set_option linter.unusedSimpArgs false
set_option maxRecDepth 4000
namespace Go.Proofs.YtddflaaccmjoeaaGreatDoor
open Go Go.Sx Go.RowKit Go.W Go.Proofs
attribute [local irreducible] Ex ExL ExD Op1 Free RetQ MutQ Reads CellO SegO LoadsAs
theorem e_25 : Enters Tryz.prog 25 := Enters.of Tryz.func25 rfl
theorem c_iWithout_f (s : List Int) (hu : Nums 255 s) (As : Option Addr) (cs : Nat) (hls : s.length ≤ maxLen) (l : List VP) (Al : Option Addr) (cl : Nat) (hll : l.length ≤ maxLen) (f : VP) (wo : Int) (hask : askS s l f = false) : Ret Tryz.prog 25 [.slice As s.length cs, .slice Al l.length cl, .agg (encP f).toArray, .int .i64 wo] (fun w => Rd w As (s.flatMap (eI .u8)) ∧ Rd w Al (l.flatMap encP)) (fun x : Unit => .tuple #[.int .i64 (withoutV s l f wo).1, .int .i64 (withoutV s l f wo).2]) (fun x => []) (fun x => True) := by
  refine Ret.of e_25 Tryz.func25 rfl Tryz.ntmps25 rfl rfl (fun w hpre => ?_)
  have hs := hpre.1.base
  have hl := hpre.2.base
  have hm0 : maxLen = 9223372036854775807 := rfl
  have hwt := wt_1 (f := f) (w := wo) hask
  refine Ex.regSeq (ExL.pures 0 rfl ?_)
  refine ExL.op rfl (op_box rfl rfl rfl rfl rfl (fun b1 => ?_))
  refine ExL.pures 2 rfl ?_
  refine ExL.nil ?_
  refine Ex.regSeq (ExL.pures 2 rfl ?_)
  refine ExL.free (fr_loadN rfl rfl rfl rfl rfl (SegO.whole (i := 0) rfl)) rfl rfl rfl ?_
  refine ExL.op rfl (op_ret rfl rfl rfl (c_detOf_f s (by assumption) _ _ (by omega) l _ _ (by omega) f hask) (fun w hw => ⟨Reads.get (Reads.old hs) w hw, Reads.get (Reads.old hl) w hw⟩) rfl rfl (fun x2 hx2 => ?_))
  refine ExL.pures 1 rfl ?_
  refine ExL.nil ?_
  refine Ex.seq ?_
  refine Ex.block ?_
  refine Ex.regSeq (ExL.pures 1 rfl ?_)
  refine ExL.free (fr_eql_ptr_n rfl rfl rfl rfl) rfl rfl rfl ?_
  refine ExL.pures 1 rfl ?_
  refine ExL.nil ?_
  refine Ex.cond_t rfl ?_
  refine Ex.regSeq (ExL.pures 2 rfl ?_)
  refine ExL.nil ?_
  refine Ex.ret ?_
  refine RetQ.mk () rfl (.tmp rfl (.tmp rfl .nil)) (t2 (vI (by rw [hwt]; first | done | rfl | (rw [hbc]; first | done | rfl))) (vI (by rw [hwt]; first | done | rfl))) [] (rfl) rfl (trivial)
theorem c_iWithout_t (s : List Int) (hu : Nums 255 s) (As : Option Addr) (cs : Nat) (hls : s.length ≤ maxLen) (l : List VP) (Al : Option Addr) (cl : Nat) (hll : l.length ≤ maxLen) (f : VP) (wo : Int) (hask : askS s l f = true) : Ret Tryz.prog 25 [.slice As s.length cs, .slice Al l.length cl, .agg (encP f).toArray, .int .i64 wo] (fun w => Rd w As (s.flatMap (eI .u8)) ∧ Rd w Al (l.flatMap encP)) (fun x : Unit => .tuple #[.int .i64 (withoutV s l f wo).1, .int .i64 (withoutV s l f wo).2]) (fun x => []) (fun x => True) := by
  refine Ret.of e_25 Tryz.func25 rfl Tryz.ntmps25 rfl rfl (fun w hpre => ?_)
  have hs := hpre.1.base
  have hl := hpre.2.base
  have hm0 : maxLen = 9223372036854775807 := rfl
  obtain ⟨hL, hf⟩ := ask_of hask
  have hLl := hL.len
  refine Ex.regSeq (ExL.pures 0 rfl ?_)
  refine ExL.op rfl (op_box rfl rfl rfl rfl rfl (fun b1 => ?_))
  refine ExL.pures 2 rfl ?_
  refine ExL.nil ?_
  refine Ex.regSeq (ExL.pures 2 rfl ?_)
  refine ExL.free (fr_loadN rfl rfl rfl rfl rfl (SegO.whole (i := 0) rfl)) rfl rfl rfl ?_
  refine ExL.op rfl (op_ret rfl rfl rfl (c_detOf_t s (by assumption) _ _ (by omega) l _ _ (by omega) f hask) (fun w hw => ⟨Reads.get (Reads.old hs) w hw, Reads.get (Reads.old hl) w hw⟩) rfl rfl (fun x2 hx2 => ?_))
  refine ExL.pures 1 rfl ?_
  refine ExL.nil ?_
  refine Ex.seq ?_
  refine Ex.block ?_
  refine Ex.regSeq (ExL.pures 1 rfl ?_)
  refine ExL.free (fr_eql_ptr_s rfl rfl rfl rfl) rfl rfl rfl ?_
  refine ExL.pures 1 rfl ?_
  refine ExL.nil ?_
  refine Ex.cond_f rfl ?_
  refine Ex.regSeq (ExL.pures 3 rfl ?_)
  refine ExL.free (by first | exact fr_sub64 rfl rfl rfl (by omega) | exact fr_sub rfl rfl rfl) rfl rfl rfl ?_
  refine ExL.op rfl (op_ret rfl rfl rfl (c_within _ _ _) (fun _ _ => trivial) rfl rfl (fun x3 hx3 => ?_))
  refine ExL.pures 2 rfl ?_
  refine ExL.nil ?_
  refine Ex.cond rfl (fun hb4 => ?_) (fun hb4 => ?_)
  · replace hb4 := nd_t hb4
    have hwt := wt_2 (f := f) (w := wo) hask (by omega)
    refine Ex.regSeq (ExL.pures 2 rfl ?_)
    refine ExL.nil ?_
    refine Ex.ret ?_
    refine RetQ.mk () rfl (.tmp rfl (.tmp rfl .nil)) (t2 (vI (by rw [hwt]; first | done | rfl | (rw [hbc]; first | done | rfl))) (vI (by rw [hwt]; first | done | rfl))) [] (rfl) rfl (trivial)
  · replace hb4 := nd_f hb4
    refine Ex.regSeq (ExL.pures 2 rfl ?_)
    refine ExL.eql rfl rfl rfl rfl rfl rfl (fun h5 => ?_) (fun h5 => ?_)
    · refine ExL.pures 1 rfl ?_
      refine ExL.nil ?_
      refine Ex.cond_t rfl ?_
      have hwt := wt_6 (f := f) (w := wo) hask (by omega) (by omega)
      refine Ex.regSeq (ExL.pures 2 rfl ?_)
      refine ExL.nil ?_
      refine Ex.ret ?_
      refine RetQ.mk () rfl (.tmp rfl (.tmp rfl .nil)) (t2 (vI (by rw [hwt]; first | done | rfl | (rw [hbc]; first | done | rfl))) (vI (by rw [hwt]; first | done | rfl))) [] (rfl) rfl (trivial)
    · refine ExL.pures 1 rfl ?_
      refine ExL.nil ?_
      refine Ex.cond_f rfl ?_
      refine Ex.skip ?_
      have hwt := wt_0 (f := f) (w := wo) hask (by omega) (by omega)
      refine Ex.regSeq (ExL.pures 2 rfl ?_)
      refine ExL.op rfl (op_ret rfl rfl rfl (c_best (fitsF s l f) l.length (by omega) x2.K hx2.1 hx2.2 _ _ _ _ _ _ _ (wo)) (fun w hw => ⟨Reads.get (Reads.blk (i := 0) rfl) w hw, Reads.get (Reads.row (i := 1) rfl) w hw, fun k hk => Reads.get (readsX (i := 2) rfl hk) w hw⟩) rfl rfl (fun x6 hx6 => ?_))
      have hbc : x6.1.cost = (btT (fitsF s l f) l.length wo l.length).2.cost := congrArg (·.cost) hx6
      refine ExL.free (fr_field rfl rfl rfl rfl rfl rfl rfl) rfl rfl rfl ?_
      refine ExL.pures 2 rfl ?_
      refine ExL.nil ?_
      refine Ex.ret ?_
      refine RetQ.mk () rfl (.tmp rfl (.tmp rfl .nil)) (t2 (vI (by rw [hwt]; first | done | rfl | (rw [hbc]; first | done | rfl))) (vI (by rw [hwt]; first | done | rfl))) [] (rfl) rfl (trivial)
theorem c_iWithout (s : List Int) (hu : Nums 255 s) (As : Option Addr) (cs : Nat) (hls : s.length ≤ maxLen) (l : List VP) (Al : Option Addr) (cl : Nat) (hll : l.length ≤ maxLen) (f : VP) (wo : Int) : Ret Tryz.prog 25 [.slice As s.length cs, .slice Al l.length cl, .agg (encP f).toArray, .int .i64 wo] (fun w => Rd w As (s.flatMap (eI .u8)) ∧ Rd w Al (l.flatMap encP)) (fun x : Unit => .tuple #[.int .i64 (withoutV s l f wo).1, .int .i64 (withoutV s l f wo).2]) (fun x => []) (fun x => True) := by
  cases h : askS s l f with
  | false => exact c_iWithout_f s hu As cs hls l Al cl hll f wo h
  | true => exact c_iWithout_t s hu As cs hls l Al cl hll f wo h
end Go.Proofs.YtddflaaccmjoeaaGreatDoor

/- What these functions of the program hand back, each proved by walking its operations. -/
set_option linter.unusedVariables false
set_option linter.unusedSimpArgs false
set_option maxRecDepth 4000
namespace Go.Proofs.YtddflaaccmjoeaaGreatDoor
open Go Go.Sx Go.RowKit Go.W Go.Proofs
attribute [local irreducible] Ex ExL ExD Op1 Free RetQ MutQ Reads CellO SegO LoadsAs
theorem e_91 : Enters Tryz.prog 91 := Enters.of Tryz.func91 rfl
theorem c_cw1 (fit : Nat → Nat → Bool) (n : Nat) (hn : n ≤ 40) (K : List (VX Bool)) (hKl : K.length = n) (hCK : CanK fit n K) (b o : Nat) (As Al : Option Addr) (ns cs cl : Nat) (bb : Nat) (i k : Nat) (hik : i < k) (hk : k < n) : Ret Tryz.prog 91 [.int .i64 (i : Int), .int .i64 (k : Int), .pointer (some ⟨bb, 0, none⟩)] (fun w => Rd w (some ⟨bb, 0, none⟩) [.pointer (some ⟨b, 0, none⟩)] ∧ Rd w (some ⟨b, 0, none⟩) [.slice As ns cs, .slice Al n cl, .slice (some ⟨o, 0, none⟩) n n] ∧ Rd w (some ⟨o, 0, none⟩) (K.flatMap encX) ∧ ∀ k, k < K.length → Rd w (K.getD k zX).A ((K.getD k zX).xs.flatMap eB)) (fun x : Unit => .int .i64 (((k : Int) - i - 1) + 2 * brk (fit i k))) (fun x => []) (fun x => True) := by
  refine Ret.of e_91 Tryz.func91 rfl Tryz.ntmps91 rfl rfl (fun w hpre => ?_)
  have hbb := hpre.1.base
  have hd := hpre.2.1.base
  have hc := hpre.2.2.1.base
  have hcr := fun k hk => (hpre.2.2.2 k hk).base
  have hKn := hKl
  obtain ⟨hxl, hbe⟩ := canK_bool hCK (i := i) (j := k) (by omega) (by omega) (by omega)
  have hbk := brk_bd ((K.getD i zX).xs.getD k false)
  have hm0 : maxLen = 9223372036854775807 := rfl
  refine Ex.regSeq (ExL.pures 1 rfl ?_)
  refine ExL.nil ?_
  refine Ex.regSeq (ExL.pures 2 rfl ?_)
  refine ExL.free (by first | exact fr_sub64 rfl rfl rfl (by omega) | exact fr_sub rfl rfl rfl) rfl rfl rfl ?_
  refine ExL.free (by first | exact fr_sub64 rfl rfl rfl (by omega) | exact fr_sub rfl rfl rfl) rfl rfl rfl ?_
  refine ExL.free (by first | exact fr_mul64 rfl rfl rfl (by omega) | exact fr_mul rfl rfl rfl) rfl rfl rfl ?_
  refine ExL.free (fr_load rfl rfl rfl rfl (CellO.at 0 (Reads.old hbb) rfl)) rfl rfl rfl ?_
  refine ExL.pures 2 rfl ?_
  refine ExL.free (fr_load rfl rfl rfl rfl (CellO.at 2 (Reads.old hd) rfl)) rfl rfl rfl ?_
  refine ExL.pures 1 rfl ?_
  refine ExL.free (fr_indexAddrE (sz := 1) hKl (Reads.old hc) encX_len rfl rfl rfl rfl rfl rfl (by omega)) rfl rfl rfl ?_
  refine ExL.free (fr_load rfl rfl rfl rfl (cellJ (i := ↑i) (i) (Reads.old hc) encX_len zX 0 rfl (by omega) (by omega) rfl)) rfl rfl rfl ?_
  refine ExL.pures 1 rfl ?_
  refine ExL.free (fr_indexAddrF (Reads.old (hcr i (by omega))) eB_len rfl rfl rfl rfl rfl rfl (by omega)) rfl rfl rfl ?_
  refine ExL.free (fr_load rfl rfl rfl rfl (cellJ (i := ↑k) (k) (Reads.old (hcr i (by omega))) eB_len false 0 rfl (by omega) (by omega) rfl)) rfl rfl rfl ?_
  refine ExL.op rfl (op_ret rfl rfl rfl (c_oneUnless _) (fun _ _ => trivial) rfl rfl (fun x1 hx1 => ?_))
  refine ExL.free (by first | exact fr_mul64 rfl rfl rfl (by omega) | exact fr_mul rfl rfl rfl) rfl rfl rfl ?_
  refine ExL.free (by first | exact fr_add64 rfl rfl rfl (by omega) | exact fr_add rfl rfl rfl) rfl rfl rfl ?_
  refine ExL.pures 1 rfl ?_
  refine ExL.nil ?_
  refine Ex.ret ?_
  refine RetQ.mk () rfl (.tmp rfl .nil) (tI (by rw [← hbe]; omega)) [] (rfl) rfl (trivial)
theorem e_55 : Enters Tryz.prog 55 := Enters.of Tryz.func55 rfl
theorem c_costWith (fit : Nat → Nat → Bool) (n : Nat) (hn : n ≤ 40) (K : List (VX Bool)) (hKl : K.length = n) (hCK : CanK fit n K) (b o : Nat) (As Al : Option Addr) (ns cs cl : Nat) (i : Nat) (hin : i < n) : Ret Tryz.prog 55 [.pointer (some ⟨b, 0, none⟩), .int .i64 (i : Int)] (fun w => Rd w (some ⟨b, 0, none⟩) [.slice As ns cs, .slice Al n cl, .slice (some ⟨o, 0, none⟩) n n] ∧ Rd w (some ⟨o, 0, none⟩) (K.flatMap encX) ∧ ∀ k, k < K.length → Rd w (K.getD k zX).A ((K.getD k zX).xs.flatMap eB)) (fun x : Unit => .int .i64 (withV fit n i)) (fun x => []) (fun x => True) := by
  refine Ret.of e_55 Tryz.func55 rfl Tryz.ntmps55 rfl rfl (fun w hpre => ?_)
  have hd := hpre.1.base
  have hc := hpre.2.1.base
  have hcr := fun k hk => (hpre.2.2 k hk).base
  have hKn := hKl
  have hm0 : maxLen = 9223372036854775807 := rfl
  refine Ex.regSeq (ExL.pures 0 rfl ?_)
  refine ExL.op rfl (op_box rfl rfl rfl rfl rfl (fun b1 => ?_))
  refine ExL.pures 1 rfl ?_
  refine ExL.nil ?_
  refine Ex.regSeq (ExL.pures 0 rfl ?_)
  refine ExL.free (fr_load rfl rfl rfl rfl (CellO.blk (i := 0) rfl rfl)) rfl rfl rfl ?_
  refine ExL.pures 2 rfl ?_
  refine ExL.free (fr_load rfl rfl rfl rfl (CellO.at 1 (Reads.old hd) rfl)) rfl rfl rfl ?_
  refine ExL.pures 2 rfl ?_
  refine ExL.nil ?_
  refine Ex.regSeq (ExL.pures 0 rfl ?_)
  refine ExL.free (fr_makeFunc rfl rfl rfl) rfl rfl rfl ?_
  refine ExL.pures 1 rfl ?_
  refine ExL.nil ?_
  refine Ex.drawSeqM rfl ?_
  refine ExD.take (i := 0) rfl (by kernel_rfl) (pureVal_ok rfl) ((List.Sublist.refl _)) rfl rfl rfl ?_
  refine ExD.take (i := 2) rfl (by kernel_rfl) (pureVal_ok rfl) ((List.Sublist.refl _)) rfl rfl rfl ?_
  refine ExD.fork (i := 1) (j := 3) rfl rfl (by kernel_rfl) rfl rfl (op_makeSlice (sz := 8) rfl rfl rfl rfl rfl rfl rfl rfl (⟨by omega, by unfold maxLen; omega⟩) rfl rfl (fun r2 => ⟨(List.Sublist.cons _ (List.Sublist.refl _)), ?_⟩)) (op_makeSlice (sz := 8) rfl rfl rfl rfl rfl rfl rfl rfl (⟨by omega, by unfold maxLen; omega⟩) rfl rfl (fun r3 => ⟨(List.Sublist.cons _ (List.Sublist.refl _)), ?_⟩))
  · refine ExD.take (i := 4) rfl (by kernel_rfl) (pureVal_ok rfl) ((List.Sublist.cons _ (List.Sublist.refl _))) rfl rfl rfl ?_
    refine ExD.op (i := 3) rfl (by kernel_rfl) rfl (op_makeSlice (sz := 8) rfl rfl rfl rfl rfl rfl rfl rfl (⟨by omega, by unfold maxLen; omega⟩) rfl rfl (fun r4 => ⟨(List.Sublist.cons _ (List.Sublist.cons _ (List.Sublist.refl _))), ?_⟩))
    refine ExD.take (i := 5) rfl (by kernel_rfl) (pureVal_ok rfl) ((List.Sublist.cons _ (List.Sublist.cons _ (List.Sublist.refl _)))) rfl rfl rfl ?_
    refine ExD.done (by kernel_rfl) ?_
    refine Ex.seq ?_
    refine Ex.regSeq (ExL.pures 1 rfl ?_)
    refine ExL.nil ?_
    refine Ex.block ?_
    refine Ex.loopK (X := Nat) (fun j => [(9, .int .i64 j)]) (fun j => [.row (.slice (some ⟨r2, 0, none⟩) n n) 2 1 n ((flO fit n j).flatMap (eI .i64))]) (fun j => j ≤ i + 1) (fun j => i + 1 - j) 0 [(1, _), (4, _), (5, _), (6, _), (7, _), (8, _)] [_, _] 3 [1, 0, 2] ⟨rfl, trivial⟩ ⟨rfl, rfl, rfl, rfl, rfl, rfl, trivial⟩ (pkR (flO_zero rfl)) rfl (Nat.zero_le _) (fun j hI => ?_)
    have hI : j ≤ i + 1 := hI
    refine Ex.seq ?_
    refine Ex.regSeq (ExL.pures 2 rfl ?_)
    refine ExL.leq rfl rfl rfl rfl rfl rfl (fun h5 => ?_) (fun h5 => ?_)
    · refine ExL.nil ?_
      refine Ex.cond_t rfl ?_
      refine Ex.skip ?_
      refine Ex.seq ?_
      refine Ex.block ?_
      refine Ex.regSeq (ExL.pures 3 rfl ?_)
      refine ExL.free (by first | exact fr_mul64 rfl rfl rfl (by omega) | exact fr_mul rfl rfl rfl) rfl rfl rfl ?_
      refine ExL.free (fr_indexAddr (sz := 1) rfl rfl rfl rfl rfl rfl (by omega)) rfl rfl rfl ?_
      refine ExL.op rfl (op_storeRowF (i := 0) rfl rfl rfl rfl rfl rfl rfl rfl (room (eI_len .i64) (k := j) (by rw [flO_len (by omega)]; omega) (by simp) rfl) (List.cons_ne_nil _ _) rfl (flO_put (x := (finV fit j (fl fit j) 0)) (by omega) (by simp) (by rw [Int.mul_one]; rfl)) ?_)
      refine ExL.nil ?_
      refine Ex.regSeq (ExL.pures 2 rfl ?_)
      refine ExL.nil ?_
      refine Ex.block ?_
      refine Ex.loopK (X := Nat) (fun m => [(34, .int .i64 m)]) (fun m => [.row (.slice (some ⟨r2, 0, none⟩) n n) 2 1 n ((flR fit n j (finV fit j (fl fit j) m)).flatMap (eI .i64))]) (fun m => m ≤ j) (fun m => j - m) 0 [(1, _), (4, _), (5, _), (6, _), (7, _), (8, _), (9, _), (33, _)] [_, _] 3 [0, 1, 2] ⟨rfl, trivial⟩ ⟨rfl, rfl, rfl, rfl, rfl, rfl, rfl, rfl, trivial⟩ (rfl) rfl (Nat.zero_le _) (fun m hI => ?_)
      have hI : m ≤ j := hI
      refine Ex.regSeq (ExL.pures 0 rfl ?_)
      refine ExL.lss rfl rfl rfl rfl rfl rfl (fun h6 => ?_) (fun h6 => ?_)
      · refine ExL.nil ?_
        refine Ex.seq ?_
        refine Ex.cond_t rfl ?_
        refine Ex.skip ?_
        refine Ex.seq ?_
        refine Ex.block ?_
        refine Ex.regSeq (ExL.pures 2 rfl ?_)
        refine ExL.nil ?_
        have hfl := flR_len (fit := fit) (n := n) (i := j) (x := (finV fit j (fl fit j) m)) (by omega)
        have ha := flR_at (fit := fit) (n := n) (i := j) (x := (finV fit j (fl fit j) m))
        have hlo := flR_lo (fit := fit) (n := n) (i := j) (k := m) (x := (finV fit j (fl fit j) m)) (by omega)
        have hfb := fl_bd fit j m (by omega)
        have hxb := fin_bd (fit := fit) (i := j) (fl_bd fit j) m (by omega)
        have hbk := brk_bd (fit m j)
        refine Ex.drawM rfl ?_
        refine ExD.take (i := 0) rfl (by kernel_rfl) (pureVal_ok rfl) ((List.Sublist.refl _)) rfl rfl rfl ?_
        refine ExD.take (i := 1) rfl (by kernel_rfl) (pureVal_ok rfl) ((List.Sublist.refl _)) rfl rfl rfl ?_
        refine ExD.take (i := 2) rfl (by kernel_rfl) (pureVal_ok rfl) ((List.Sublist.refl _)) rfl rfl rfl ?_
        refine ExD.take (i := 3) rfl (by kernel_rfl) (pureVal_ok rfl) ((List.Sublist.refl _)) rfl rfl rfl ?_
        refine ExD.take (i := 4) rfl (by kernel_rfl) (fr_indexAddr (sz := 1) rfl rfl rfl rfl rfl rfl (by omega)) ((List.Sublist.refl _)) rfl rfl rfl ?_
        refine ExD.take (i := 5) rfl (by kernel_rfl) (fr_load rfl rfl rfl rfl (cellJ (i := ↑j) (j) (Reads.row (i := 0) rfl) (eI_len .i64) 0 0 rfl (by omega) (by omega) rfl)) ((List.Sublist.refl _)) rfl rfl rfl ?_
        refine ExD.take (i := 6) rfl (by kernel_rfl) (pureVal_ok rfl) ((List.Sublist.refl _)) rfl rfl rfl ?_
        refine ExD.take (i := 7) rfl (by kernel_rfl) (pureVal_ok rfl) ((List.Sublist.refl _)) rfl rfl rfl ?_
        refine ExD.take (i := 8) rfl (by kernel_rfl) (fr_indexAddr (sz := 1) rfl rfl rfl rfl rfl rfl (by omega)) ((List.Sublist.refl _)) rfl rfl rfl ?_
        refine ExD.take (i := 9) rfl (by kernel_rfl) (fr_load rfl rfl rfl rfl (cellJ (i := ↑m) (m) (Reads.row (i := 0) rfl) (eI_len .i64) 0 0 rfl (by omega) (by omega) rfl)) ((List.Sublist.refl _)) rfl rfl rfl ?_
        refine ExD.take (i := 10) rfl (by kernel_rfl) (pureVal_ok rfl) ((List.Sublist.refl _)) rfl rfl rfl ?_
        refine ExD.take (i := 11) rfl (by kernel_rfl) (pureVal_ok rfl) ((List.Sublist.refl _)) rfl rfl rfl ?_
        refine ExD.take (i := 12) rfl (by kernel_rfl) (pureVal_ok rfl) ((List.Sublist.refl _)) rfl rfl rfl ?_
        refine ExD.op (i := 13) rfl (by kernel_rfl) rfl (op_ret rfl rfl rfl (c_cw1 fit n hn K hKl hCK b o As Al ns cs cl _ m j (by omega) (by omega)) (fun w hw => ⟨Reads.get (Reads.blk (i := 2) rfl) w hw, Reads.get (Reads.old hd) w hw, Reads.get (Reads.old hc) w hw, fun k hk => Reads.get (Reads.old (hcr k hk)) w hw⟩) rfl rfl (fun x7 hx7 => ⟨(List.Sublist.refl _), ?_⟩))
        refine ExD.take (i := 14) rfl (by kernel_rfl) (by first | exact fr_add64 rfl rfl rfl (by omega) | exact fr_add rfl rfl rfl) ((List.Sublist.refl _)) rfl rfl rfl ?_
        refine ExD.take (i := 15) rfl (by kernel_rfl) (fr_min rfl rfl rfl) ((List.Sublist.refl _)) rfl rfl rfl ?_
        refine ExD.take (i := 16) rfl (by kernel_rfl) (fr_indexAddr (sz := 1) rfl rfl rfl rfl rfl rfl (by omega)) ((List.Sublist.refl _)) rfl rfl rfl ?_
        refine ExD.last (i := 17) rfl (by kernel_rfl) (by kernel_rfl) rfl (op_storeRowF (i := 0) rfl rfl rfl rfl rfl rfl rfl rfl (room (eI_len .i64) (k := j) (by rw [flR_len (by omega)]; omega) (by simp) rfl) (List.cons_ne_nil _ _) rfl (flR_put (y := (finV fit j (fl fit j) (m + 1))) (by omega) (by simp) (by rw [ha, hlo]; exact congrArg (fun z => [Value.int .i64 z]) (fin_step (by omega)))) ?_)
        refine ExD.done (by kernel_rfl) ?_
        refine Ex.region (ExL.pures 0 rfl ?_)
        refine ExL.free (by first | exact fr_add64 rfl rfl rfl (by omega) | exact fr_add rfl rfl rfl) rfl rfl rfl ?_
        refine ExL.pures 1 rfl ?_
        refine ExL.nil ?_
        refine Hand.mk (m + 1) 3 [0, 1, 2] ⟨rfl, trivial⟩ ⟨rfl, rfl, rfl, rfl, rfl, rfl, rfl, rfl, trivial⟩ (rfl) rfl (by omega) (by omega)
      · refine ExL.nil ?_
        refine Ex.seq ?_
        refine Ex.cond_f rfl ?_
        refine Ex.exit ?_
        obtain rfl : j = m := (by omega)
        refine Ex.region (ExL.pures 1 rfl ?_)
        refine ExL.free (by first | exact fr_add64 rfl rfl rfl (by omega) | exact fr_add rfl rfl rfl) rfl rfl rfl ?_
        refine ExL.pures 1 rfl ?_
        refine ExL.nil ?_
        refine Hand.mk (j + 1) 3 [0, 1, 2] ⟨rfl, trivial⟩ ⟨rfl, rfl, rfl, rfl, rfl, rfl, trivial⟩ (by rw [← flR_fin (by omega)]; rfl) rfl (by omega) (by omega)
    · refine ExL.nil ?_
      refine Ex.cond_f rfl ?_
      refine Ex.exit ?_
      obtain rfl : j = i + 1 := (by omega)
      refine Ex.seq ?_
      refine Ex.regSeq (ExL.pures 1 rfl ?_)
      refine ExL.free (by first | exact fr_sub64 rfl rfl rfl (by omega) | exact fr_sub rfl rfl rfl) rfl rfl rfl ?_
      refine ExL.pures 1 rfl ?_
      refine ExL.nil ?_
      refine Ex.block ?_
      refine Ex.loopK (X := Nat) (fun d => [(11, .int .i64 ((n : Int) - 1 - d))]) (fun d => [.row (.slice (some ⟨r4, 0, none⟩) n n) 2 1 n ((bhO fit n d).flatMap (eI .i64))]) (fun d => d ≤ n - i) (fun d => n - i - d) 0 [(1, _), (4, _), (5, _), (6, _), (7, _), (8, _)] [_, _] 3 [1, 0, 2] ⟨agI (by omega), trivial⟩ ⟨rfl, rfl, rfl, rfl, rfl, rfl, trivial⟩ (pkR (bhO_zero rfl)) rfl (Nat.zero_le _) (fun d hI => ?_)
      have hI : d ≤ n - i := hI
      refine Ex.seq ?_
      refine Ex.regSeq (ExL.pures 2 rfl ?_)
      refine ExL.geq rfl rfl rfl rfl rfl rfl (fun h8 => ?_) (fun h8 => ?_)
      · refine ExL.nil ?_
        refine Ex.cond_t rfl ?_
        refine Ex.skip ?_
        refine Ex.seq ?_
        refine Ex.block ?_
        have hdl : d < n - i := by omega
        rw [show (n : Int) - 1 - d = (((n - 1 - d) : Nat) : Int) by omega]
        refine Ex.regSeq (ExL.pures 3 rfl ?_)
        refine ExL.free (by first | exact fr_sub64 rfl rfl rfl (by omega) | exact fr_sub rfl rfl rfl) rfl rfl rfl ?_
        refine ExL.pures 1 rfl ?_
        refine ExL.free (by first | exact fr_sub64 rfl rfl rfl (by omega) | exact fr_sub rfl rfl rfl) rfl rfl rfl ?_
        refine ExL.free (by first | exact fr_mul64 rfl rfl rfl (by omega) | exact fr_mul rfl rfl rfl) rfl rfl rfl ?_
        refine ExL.free (fr_indexAddr (sz := 1) rfl rfl rfl rfl rfl rfl (by omega)) rfl rfl rfl ?_
        refine ExL.op rfl (op_storeRowF (i := 0) rfl rfl rfl rfl rfl rfl rfl rfl (room (eI_len .i64) (k := (n - 1 - d)) (by rw [bhO_len (by omega)]; omega) (by simp) rfl) (List.cons_ne_nil _ _) rfl (bhO_put (x := (inn fit n d (rl fit n d) 0).cost) (by omega) (by simp) (congrArg (fun z => [Value.int .i64 z]) (by show _ = (d : Int); omega))) ?_)
        refine ExL.nil ?_
        refine Ex.regSeq (ExL.pures 1 rfl ?_)
        refine ExL.free (by first | exact fr_add64 rfl rfl rfl (by omega) | exact fr_add rfl rfl rfl) rfl rfl rfl ?_
        refine ExL.pures 1 rfl ?_
        refine ExL.nil ?_
        refine Ex.block ?_
        refine Ex.loopK (X := Nat) (fun m => [(12, .int .i64 (((n - d + m) : Nat) : Int))]) (fun m => [.row (.slice (some ⟨r4, 0, none⟩) n n) 2 1 n ((bhR fit n d (inn fit n d (rl fit n d) m).cost).flatMap (eI .i64))]) (fun m => m ≤ d) (fun m => d - m) 0 [(1, _), (4, _), (5, _), (6, _), (7, _), (8, _), (11, _)] [_, _] 3 [0, 1, 2] ⟨agI (by omega), trivial⟩ ⟨rfl, rfl, rfl, rfl, rfl, rfl, rfl, trivial⟩ (rfl) rfl (Nat.zero_le _) (fun m hI => ?_)
        have hI : m ≤ d := hI
        refine Ex.seq ?_
        refine Ex.regSeq (ExL.pures 2 rfl ?_)
        refine ExL.lss rfl rfl rfl rfl rfl rfl (fun h9 => ?_) (fun h9 => ?_)
        · refine ExL.nil ?_
          refine Ex.cond_t rfl ?_
          refine Ex.skip ?_
          refine Ex.seq ?_
          refine Ex.block ?_
          have hbl := bhR_len (fit := fit) (n := n) (d := d) (x := (inn fit n d (rl fit n d) m).cost) (by omega)
          have hba := bhR_at (fit := fit) (n := n) (d := d) (x := (inn fit n d (rl fit n d) m).cost) (by omega)
          have hbh := bhR_hi (fit := fit) (n := n) (d := d) (m := m) (x := (inn fit n d (rl fit n d) m).cost) (by omega) (by omega)
          have hrb := rl_bd fit n d (by omega)
          have hrl := rl_len fit n d
          have hcb := cand_bd (fit := fit) hrb hrl (m := m) (by omega)
          have hib := inn_bd (fit := fit) hrb hrl (by omega) m (by omega)
          have he := hrb (d - 1 - m) (by omega)
          have hbk := brk_bd (fit (n - 1 - d) (n - d + m))
          refine Ex.drawM rfl ?_
          refine ExD.take (i := 0) rfl (by kernel_rfl) (pureVal_ok rfl) ((List.Sublist.refl _)) rfl rfl rfl ?_
          refine ExD.take (i := 1) rfl (by kernel_rfl) (pureVal_ok rfl) ((List.Sublist.refl _)) rfl rfl rfl ?_
          refine ExD.take (i := 2) rfl (by kernel_rfl) (pureVal_ok rfl) ((List.Sublist.refl _)) rfl rfl rfl ?_
          refine ExD.take (i := 3) rfl (by kernel_rfl) (pureVal_ok rfl) ((List.Sublist.refl _)) rfl rfl rfl ?_
          refine ExD.take (i := 4) rfl (by kernel_rfl) (fr_indexAddr (sz := 1) rfl rfl rfl rfl rfl rfl (by omega)) ((List.Sublist.refl _)) rfl rfl rfl ?_
          refine ExD.take (i := 5) rfl (by kernel_rfl) (fr_load rfl rfl rfl rfl (cellJ (i := ↑(n - 1 - d)) ((n - 1 - d)) (Reads.row (i := 0) rfl) (eI_len .i64) 0 0 rfl (by omega) (by omega) rfl)) ((List.Sublist.refl _)) rfl rfl rfl ?_
          refine ExD.take (i := 6) rfl (by kernel_rfl) (pureVal_ok rfl) ((List.Sublist.refl _)) rfl rfl rfl ?_
          refine ExD.take (i := 7) rfl (by kernel_rfl) (pureVal_ok rfl) ((List.Sublist.refl _)) rfl rfl rfl ?_
          refine ExD.take (i := 8) rfl (by kernel_rfl) (fr_indexAddr (sz := 1) rfl rfl rfl rfl rfl rfl (by omega)) ((List.Sublist.refl _)) rfl rfl rfl ?_
          refine ExD.take (i := 9) rfl (by kernel_rfl) (fr_load rfl rfl rfl rfl (cellJ (i := ↑(n - d + m)) ((n - d + m)) (Reads.row (i := 0) rfl) (eI_len .i64) 0 0 rfl (by omega) (by omega) rfl)) ((List.Sublist.refl _)) rfl rfl rfl ?_
          refine ExD.take (i := 10) rfl (by kernel_rfl) (pureVal_ok rfl) ((List.Sublist.refl _)) rfl rfl rfl ?_
          refine ExD.take (i := 11) rfl (by kernel_rfl) (pureVal_ok rfl) ((List.Sublist.refl _)) rfl rfl rfl ?_
          refine ExD.take (i := 12) rfl (by kernel_rfl) (pureVal_ok rfl) ((List.Sublist.refl _)) rfl rfl rfl ?_
          refine ExD.op (i := 13) rfl (by kernel_rfl) rfl (op_ret rfl rfl rfl (c_cw1 fit n hn K hKl hCK b o As Al ns cs cl _ (n - 1 - d) (n - d + m) (by omega) (by omega)) (fun w hw => ⟨Reads.get (Reads.blk (i := 2) rfl) w hw, Reads.get (Reads.old hd) w hw, Reads.get (Reads.old hc) w hw, fun k hk => Reads.get (Reads.old (hcr k hk)) w hw⟩) rfl rfl (fun x10 hx10 => ⟨(List.Sublist.refl _), ?_⟩))
          refine ExD.take (i := 14) rfl (by kernel_rfl) (by first | exact fr_add64 rfl rfl rfl (by omega) | exact fr_add rfl rfl rfl) ((List.Sublist.refl _)) rfl rfl rfl ?_
          refine ExD.take (i := 15) rfl (by kernel_rfl) (fr_min rfl rfl rfl) ((List.Sublist.refl _)) rfl rfl rfl ?_
          refine ExD.take (i := 16) rfl (by kernel_rfl) (fr_indexAddr (sz := 1) rfl rfl rfl rfl rfl rfl (by omega)) ((List.Sublist.refl _)) rfl rfl rfl ?_
          refine ExD.last (i := 17) rfl (by kernel_rfl) (by kernel_rfl) rfl (op_storeRowF (i := 0) rfl rfl rfl rfl rfl rfl rfl rfl (room (eI_len .i64) (k := (n - 1 - d)) (by rw [bhR_len (by omega)]; omega) (by simp) rfl) (List.cons_ne_nil _ _) rfl (bhR_put (y := (inn fit n d (rl fit n d) (m + 1)).cost) (by omega) (by simp) (by rw [hba, hbh]; exact congrArg (fun z => [Value.int .i64 z]) (inn_min (by unfold candC; omega)))) ?_)
          refine ExD.done (by kernel_rfl) ?_
          refine Ex.region (ExL.pures 1 rfl ?_)
          refine ExL.free (by first | exact fr_add64 rfl rfl rfl (by omega) | exact fr_add rfl rfl rfl) rfl rfl rfl ?_
          refine ExL.pures 1 rfl ?_
          refine ExL.nil ?_
          refine Hand.mk (m + 1) 3 [0, 1, 2] ⟨agI (by omega), trivial⟩ ⟨rfl, rfl, rfl, rfl, rfl, rfl, rfl, trivial⟩ (rfl) rfl (by omega) (by omega)
        · refine ExL.nil ?_
          refine Ex.cond_f rfl ?_
          refine Ex.exit ?_
          obtain rfl : d = m := (by omega)
          refine Ex.region (ExL.pures 1 rfl ?_)
          refine ExL.free (by first | exact fr_sub64 rfl rfl rfl (by omega) | exact fr_sub rfl rfl rfl) rfl rfl rfl ?_
          refine ExL.pures 1 rfl ?_
          refine ExL.nil ?_
          refine Hand.mk (d + 1) 3 [0, 1, 2] ⟨agI (by omega), trivial⟩ ⟨rfl, rfl, rfl, rfl, rfl, rfl, trivial⟩ (by rw [← bhR_fin (by omega)]; rfl) rfl (by omega) (by omega)
      · refine ExL.nil ?_
        refine Ex.cond_f rfl ?_
        refine Ex.exit ?_
        obtain rfl : d = n - i := (by omega)
        have hfl := flO_len (fit := fit) (n := n) (i := i + 1) (by omega)
        have hfa := flO_at (fit := fit) (n := n) (i := i) (j := i + 1) (by omega)
        have hbl := bhO_len (fit := fit) (n := n) (d := n - i) (by omega)
        have hba := bhO_hi (fit := fit) (n := n) (d := n - i) (k := i) (by omega) (by omega) (by omega)
        have hxb := fin_bd (fit := fit) (i := i) (fl_bd fit i) i (Nat.le_refl _)
        have hrb := rst_bd (fit := fit) (n := n) (i := i) (by omega)
        refine Ex.drawSeqM rfl ?_
        refine ExD.take (i := 0) rfl (by kernel_rfl) (pureVal_ok rfl) ((List.Sublist.refl _)) rfl rfl rfl ?_
        refine ExD.take (i := 1) rfl (by kernel_rfl) (pureVal_ok rfl) ((List.Sublist.refl _)) rfl rfl rfl ?_
        refine ExD.take (i := 2) rfl (by kernel_rfl) (fr_indexAddr (sz := 1) rfl rfl rfl rfl rfl rfl (by omega)) ((List.Sublist.refl _)) rfl rfl rfl ?_
        refine ExD.take (i := 3) rfl (by kernel_rfl) (fr_load rfl rfl rfl rfl (cellJ (i := ↑i) (i) (Reads.row (i := 1) rfl) (eI_len .i64) 0 0 rfl (by omega) (by omega) rfl)) ((List.Sublist.refl _)) rfl rfl rfl ?_
        refine ExD.take (i := 4) rfl (by kernel_rfl) (pureVal_ok rfl) ((List.Sublist.refl _)) rfl rfl rfl ?_
        refine ExD.take (i := 5) rfl (by kernel_rfl) (pureVal_ok rfl) ((List.Sublist.refl _)) rfl rfl rfl ?_
        refine ExD.take (i := 6) rfl (by kernel_rfl) (fr_indexAddr (sz := 1) rfl rfl rfl rfl rfl rfl (by omega)) ((List.Sublist.refl _)) rfl rfl rfl ?_
        refine ExD.take (i := 7) rfl (by kernel_rfl) (fr_load rfl rfl rfl rfl (cellJ (i := ↑i) (i) (Reads.row (i := 0) rfl) (eI_len .i64) 0 0 rfl (by omega) (by omega) rfl)) ((List.Sublist.refl _)) rfl rfl rfl ?_
        refine ExD.take (i := 8) rfl (by kernel_rfl) (by first | exact fr_add64 rfl rfl rfl (by omega) | exact fr_add rfl rfl rfl) ((List.Sublist.refl _)) rfl rfl rfl ?_
        refine ExD.take (i := 9) rfl (by kernel_rfl) (pureVal_ok rfl) ((List.Sublist.refl _)) rfl rfl rfl ?_
        refine ExD.done (by kernel_rfl) ?_
        refine Ex.ret ?_
        refine RetQ.mk () rfl (.tmp rfl .nil) (tI (by unfold withV; rw [hfa, hba])) [] (rfl) rfl (trivial)
  · refine ExD.op (i := 1) rfl (by kernel_rfl) rfl (op_makeSlice (sz := 8) rfl rfl rfl rfl rfl rfl rfl rfl (⟨by omega, by unfold maxLen; omega⟩) rfl rfl (fun r11 => ⟨(List.Sublist.cons _ (List.Sublist.cons _ (List.Sublist.refl _))), ?_⟩))
    refine ExD.take (i := 4) rfl (by kernel_rfl) (pureVal_ok rfl) ((List.Sublist.cons _ (List.Sublist.cons _ (List.Sublist.refl _)))) rfl rfl rfl ?_
    refine ExD.take (i := 5) rfl (by kernel_rfl) (pureVal_ok rfl) ((List.Sublist.cons _ (List.Sublist.cons _ (List.Sublist.refl _)))) rfl rfl rfl ?_
    refine ExD.done (by kernel_rfl) ?_
    refine Ex.seq ?_
    refine Ex.regSeq (ExL.pures 1 rfl ?_)
    refine ExL.nil ?_
    refine Ex.block ?_
    refine Ex.loopK (X := Nat) (fun j => [(9, .int .i64 j)]) (fun j => [.row (.slice (some ⟨r11, 0, none⟩) n n) 2 1 n ((flO fit n j).flatMap (eI .i64))]) (fun j => j ≤ i + 1) (fun j => i + 1 - j) 0 [(1, _), (4, _), (5, _), (6, _), (7, _), (8, _)] [_, _] 3 [0, 1, 2] ⟨rfl, trivial⟩ ⟨rfl, rfl, rfl, rfl, rfl, rfl, trivial⟩ (pkR (flO_zero rfl)) rfl (Nat.zero_le _) (fun j hI => ?_)
    have hI : j ≤ i + 1 := hI
    refine Ex.seq ?_
    refine Ex.regSeq (ExL.pures 2 rfl ?_)
    refine ExL.leq rfl rfl rfl rfl rfl rfl (fun h12 => ?_) (fun h12 => ?_)
    · refine ExL.nil ?_
      refine Ex.cond_t rfl ?_
      refine Ex.skip ?_
      refine Ex.seq ?_
      refine Ex.block ?_
      refine Ex.regSeq (ExL.pures 3 rfl ?_)
      refine ExL.free (by first | exact fr_mul64 rfl rfl rfl (by omega) | exact fr_mul rfl rfl rfl) rfl rfl rfl ?_
      refine ExL.free (fr_indexAddr (sz := 1) rfl rfl rfl rfl rfl rfl (by omega)) rfl rfl rfl ?_
      refine ExL.op rfl (op_storeRowF (i := 0) rfl rfl rfl rfl rfl rfl rfl rfl (room (eI_len .i64) (k := j) (by rw [flO_len (by omega)]; omega) (by simp) rfl) (List.cons_ne_nil _ _) rfl (flO_put (x := (finV fit j (fl fit j) 0)) (by omega) (by simp) (by rw [Int.mul_one]; rfl)) ?_)
      refine ExL.nil ?_
      refine Ex.regSeq (ExL.pures 2 rfl ?_)
      refine ExL.nil ?_
      refine Ex.block ?_
      refine Ex.loopK (X := Nat) (fun m => [(34, .int .i64 m)]) (fun m => [.row (.slice (some ⟨r11, 0, none⟩) n n) 2 1 n ((flR fit n j (finV fit j (fl fit j) m)).flatMap (eI .i64))]) (fun m => m ≤ j) (fun m => j - m) 0 [(1, _), (4, _), (5, _), (6, _), (7, _), (8, _), (9, _), (33, _)] [_, _] 3 [0, 1, 2] ⟨rfl, trivial⟩ ⟨rfl, rfl, rfl, rfl, rfl, rfl, rfl, rfl, trivial⟩ (rfl) rfl (Nat.zero_le _) (fun m hI => ?_)
      have hI : m ≤ j := hI
      refine Ex.regSeq (ExL.pures 0 rfl ?_)
      refine ExL.lss rfl rfl rfl rfl rfl rfl (fun h13 => ?_) (fun h13 => ?_)
      · refine ExL.nil ?_
        refine Ex.seq ?_
        refine Ex.cond_t rfl ?_
        refine Ex.skip ?_
        refine Ex.seq ?_
        refine Ex.block ?_
        refine Ex.regSeq (ExL.pures 2 rfl ?_)
        refine ExL.nil ?_
        have hfl := flR_len (fit := fit) (n := n) (i := j) (x := (finV fit j (fl fit j) m)) (by omega)
        have ha := flR_at (fit := fit) (n := n) (i := j) (x := (finV fit j (fl fit j) m))
        have hlo := flR_lo (fit := fit) (n := n) (i := j) (k := m) (x := (finV fit j (fl fit j) m)) (by omega)
        have hfb := fl_bd fit j m (by omega)
        have hxb := fin_bd (fit := fit) (i := j) (fl_bd fit j) m (by omega)
        have hbk := brk_bd (fit m j)
        refine Ex.drawM rfl ?_
        refine ExD.take (i := 0) rfl (by kernel_rfl) (pureVal_ok rfl) ((List.Sublist.refl _)) rfl rfl rfl ?_
        refine ExD.take (i := 1) rfl (by kernel_rfl) (pureVal_ok rfl) ((List.Sublist.refl _)) rfl rfl rfl ?_
        refine ExD.take (i := 2) rfl (by kernel_rfl) (pureVal_ok rfl) ((List.Sublist.refl _)) rfl rfl rfl ?_
        refine ExD.take (i := 3) rfl (by kernel_rfl) (pureVal_ok rfl) ((List.Sublist.refl _)) rfl rfl rfl ?_
        refine ExD.take (i := 4) rfl (by kernel_rfl) (fr_indexAddr (sz := 1) rfl rfl rfl rfl rfl rfl (by omega)) ((List.Sublist.refl _)) rfl rfl rfl ?_
        refine ExD.take (i := 5) rfl (by kernel_rfl) (fr_load rfl rfl rfl rfl (cellJ (i := ↑j) (j) (Reads.row (i := 0) rfl) (eI_len .i64) 0 0 rfl (by omega) (by omega) rfl)) ((List.Sublist.refl _)) rfl rfl rfl ?_
        refine ExD.take (i := 6) rfl (by kernel_rfl) (pureVal_ok rfl) ((List.Sublist.refl _)) rfl rfl rfl ?_
        refine ExD.take (i := 7) rfl (by kernel_rfl) (pureVal_ok rfl) ((List.Sublist.refl _)) rfl rfl rfl ?_
        refine ExD.take (i := 8) rfl (by kernel_rfl) (fr_indexAddr (sz := 1) rfl rfl rfl rfl rfl rfl (by omega)) ((List.Sublist.refl _)) rfl rfl rfl ?_
        refine ExD.take (i := 9) rfl (by kernel_rfl) (fr_load rfl rfl rfl rfl (cellJ (i := ↑m) (m) (Reads.row (i := 0) rfl) (eI_len .i64) 0 0 rfl (by omega) (by omega) rfl)) ((List.Sublist.refl _)) rfl rfl rfl ?_
        refine ExD.take (i := 10) rfl (by kernel_rfl) (pureVal_ok rfl) ((List.Sublist.refl _)) rfl rfl rfl ?_
        refine ExD.take (i := 11) rfl (by kernel_rfl) (pureVal_ok rfl) ((List.Sublist.refl _)) rfl rfl rfl ?_
        refine ExD.take (i := 12) rfl (by kernel_rfl) (pureVal_ok rfl) ((List.Sublist.refl _)) rfl rfl rfl ?_
        refine ExD.op (i := 13) rfl (by kernel_rfl) rfl (op_ret rfl rfl rfl (c_cw1 fit n hn K hKl hCK b o As Al ns cs cl _ m j (by omega) (by omega)) (fun w hw => ⟨Reads.get (Reads.blk (i := 2) rfl) w hw, Reads.get (Reads.old hd) w hw, Reads.get (Reads.old hc) w hw, fun k hk => Reads.get (Reads.old (hcr k hk)) w hw⟩) rfl rfl (fun x14 hx14 => ⟨(List.Sublist.refl _), ?_⟩))
        refine ExD.take (i := 14) rfl (by kernel_rfl) (by first | exact fr_add64 rfl rfl rfl (by omega) | exact fr_add rfl rfl rfl) ((List.Sublist.refl _)) rfl rfl rfl ?_
        refine ExD.take (i := 15) rfl (by kernel_rfl) (fr_min rfl rfl rfl) ((List.Sublist.refl _)) rfl rfl rfl ?_
        refine ExD.take (i := 16) rfl (by kernel_rfl) (fr_indexAddr (sz := 1) rfl rfl rfl rfl rfl rfl (by omega)) ((List.Sublist.refl _)) rfl rfl rfl ?_
        refine ExD.last (i := 17) rfl (by kernel_rfl) (by kernel_rfl) rfl (op_storeRowF (i := 0) rfl rfl rfl rfl rfl rfl rfl rfl (room (eI_len .i64) (k := j) (by rw [flR_len (by omega)]; omega) (by simp) rfl) (List.cons_ne_nil _ _) rfl (flR_put (y := (finV fit j (fl fit j) (m + 1))) (by omega) (by simp) (by rw [ha, hlo]; exact congrArg (fun z => [Value.int .i64 z]) (fin_step (by omega)))) ?_)
        refine ExD.done (by kernel_rfl) ?_
        refine Ex.region (ExL.pures 0 rfl ?_)
        refine ExL.free (by first | exact fr_add64 rfl rfl rfl (by omega) | exact fr_add rfl rfl rfl) rfl rfl rfl ?_
        refine ExL.pures 1 rfl ?_
        refine ExL.nil ?_
        refine Hand.mk (m + 1) 3 [0, 1, 2] ⟨rfl, trivial⟩ ⟨rfl, rfl, rfl, rfl, rfl, rfl, rfl, rfl, trivial⟩ (rfl) rfl (by omega) (by omega)
      · refine ExL.nil ?_
        refine Ex.seq ?_
        refine Ex.cond_f rfl ?_
        refine Ex.exit ?_
        obtain rfl : j = m := (by omega)
        refine Ex.region (ExL.pures 1 rfl ?_)
        refine ExL.free (by first | exact fr_add64 rfl rfl rfl (by omega) | exact fr_add rfl rfl rfl) rfl rfl rfl ?_
        refine ExL.pures 1 rfl ?_
        refine ExL.nil ?_
        refine Hand.mk (j + 1) 3 [0, 1, 2] ⟨rfl, trivial⟩ ⟨rfl, rfl, rfl, rfl, rfl, rfl, trivial⟩ (by rw [← flR_fin (by omega)]; rfl) rfl (by omega) (by omega)
    · refine ExL.nil ?_
      refine Ex.cond_f rfl ?_
      refine Ex.exit ?_
      obtain rfl : j = i + 1 := (by omega)
      refine Ex.seq ?_
      refine Ex.regSeq (ExL.pures 1 rfl ?_)
      refine ExL.free (by first | exact fr_sub64 rfl rfl rfl (by omega) | exact fr_sub rfl rfl rfl) rfl rfl rfl ?_
      refine ExL.pures 1 rfl ?_
      refine ExL.nil ?_
      refine Ex.block ?_
      refine Ex.loopK (X := Nat) (fun d => [(11, .int .i64 ((n : Int) - 1 - d))]) (fun d => [.row (.slice (some ⟨r3, 0, none⟩) n n) 2 1 n ((bhO fit n d).flatMap (eI .i64))]) (fun d => d ≤ n - i) (fun d => n - i - d) 0 [(1, _), (4, _), (5, _), (6, _), (7, _), (8, _)] [_, _] 3 [1, 0, 2] ⟨agI (by omega), trivial⟩ ⟨rfl, rfl, rfl, rfl, rfl, rfl, trivial⟩ (pkR (bhO_zero rfl)) rfl (Nat.zero_le _) (fun d hI => ?_)
      have hI : d ≤ n - i := hI
      refine Ex.seq ?_
      refine Ex.regSeq (ExL.pures 2 rfl ?_)
      refine ExL.geq rfl rfl rfl rfl rfl rfl (fun h15 => ?_) (fun h15 => ?_)
      · refine ExL.nil ?_
        refine Ex.cond_t rfl ?_
        refine Ex.skip ?_
        refine Ex.seq ?_
        refine Ex.block ?_
        have hdl : d < n - i := by omega
        rw [show (n : Int) - 1 - d = (((n - 1 - d) : Nat) : Int) by omega]
        refine Ex.regSeq (ExL.pures 3 rfl ?_)
        refine ExL.free (by first | exact fr_sub64 rfl rfl rfl (by omega) | exact fr_sub rfl rfl rfl) rfl rfl rfl ?_
        refine ExL.pures 1 rfl ?_
        refine ExL.free (by first | exact fr_sub64 rfl rfl rfl (by omega) | exact fr_sub rfl rfl rfl) rfl rfl rfl ?_
        refine ExL.free (by first | exact fr_mul64 rfl rfl rfl (by omega) | exact fr_mul rfl rfl rfl) rfl rfl rfl ?_
        refine ExL.free (fr_indexAddr (sz := 1) rfl rfl rfl rfl rfl rfl (by omega)) rfl rfl rfl ?_
        refine ExL.op rfl (op_storeRowF (i := 0) rfl rfl rfl rfl rfl rfl rfl rfl (room (eI_len .i64) (k := (n - 1 - d)) (by rw [bhO_len (by omega)]; omega) (by simp) rfl) (List.cons_ne_nil _ _) rfl (bhO_put (x := (inn fit n d (rl fit n d) 0).cost) (by omega) (by simp) (congrArg (fun z => [Value.int .i64 z]) (by show _ = (d : Int); omega))) ?_)
        refine ExL.nil ?_
        refine Ex.regSeq (ExL.pures 1 rfl ?_)
        refine ExL.free (by first | exact fr_add64 rfl rfl rfl (by omega) | exact fr_add rfl rfl rfl) rfl rfl rfl ?_
        refine ExL.pures 1 rfl ?_
        refine ExL.nil ?_
        refine Ex.block ?_
        refine Ex.loopK (X := Nat) (fun m => [(12, .int .i64 (((n - d + m) : Nat) : Int))]) (fun m => [.row (.slice (some ⟨r3, 0, none⟩) n n) 2 1 n ((bhR fit n d (inn fit n d (rl fit n d) m).cost).flatMap (eI .i64))]) (fun m => m ≤ d) (fun m => d - m) 0 [(1, _), (4, _), (5, _), (6, _), (7, _), (8, _), (11, _)] [_, _] 3 [0, 1, 2] ⟨agI (by omega), trivial⟩ ⟨rfl, rfl, rfl, rfl, rfl, rfl, rfl, trivial⟩ (rfl) rfl (Nat.zero_le _) (fun m hI => ?_)
        have hI : m ≤ d := hI
        refine Ex.seq ?_
        refine Ex.regSeq (ExL.pures 2 rfl ?_)
        refine ExL.lss rfl rfl rfl rfl rfl rfl (fun h16 => ?_) (fun h16 => ?_)
        · refine ExL.nil ?_
          refine Ex.cond_t rfl ?_
          refine Ex.skip ?_
          refine Ex.seq ?_
          refine Ex.block ?_
          have hbl := bhR_len (fit := fit) (n := n) (d := d) (x := (inn fit n d (rl fit n d) m).cost) (by omega)
          have hba := bhR_at (fit := fit) (n := n) (d := d) (x := (inn fit n d (rl fit n d) m).cost) (by omega)
          have hbh := bhR_hi (fit := fit) (n := n) (d := d) (m := m) (x := (inn fit n d (rl fit n d) m).cost) (by omega) (by omega)
          have hrb := rl_bd fit n d (by omega)
          have hrl := rl_len fit n d
          have hcb := cand_bd (fit := fit) hrb hrl (m := m) (by omega)
          have hib := inn_bd (fit := fit) hrb hrl (by omega) m (by omega)
          have he := hrb (d - 1 - m) (by omega)
          have hbk := brk_bd (fit (n - 1 - d) (n - d + m))
          refine Ex.drawM rfl ?_
          refine ExD.take (i := 0) rfl (by kernel_rfl) (pureVal_ok rfl) ((List.Sublist.refl _)) rfl rfl rfl ?_
          refine ExD.take (i := 1) rfl (by kernel_rfl) (pureVal_ok rfl) ((List.Sublist.refl _)) rfl rfl rfl ?_
          refine ExD.take (i := 2) rfl (by kernel_rfl) (pureVal_ok rfl) ((List.Sublist.refl _)) rfl rfl rfl ?_
          refine ExD.take (i := 3) rfl (by kernel_rfl) (pureVal_ok rfl) ((List.Sublist.refl _)) rfl rfl rfl ?_
          refine ExD.take (i := 4) rfl (by kernel_rfl) (fr_indexAddr (sz := 1) rfl rfl rfl rfl rfl rfl (by omega)) ((List.Sublist.refl _)) rfl rfl rfl ?_
          refine ExD.take (i := 5) rfl (by kernel_rfl) (fr_load rfl rfl rfl rfl (cellJ (i := ↑(n - 1 - d)) ((n - 1 - d)) (Reads.row (i := 0) rfl) (eI_len .i64) 0 0 rfl (by omega) (by omega) rfl)) ((List.Sublist.refl _)) rfl rfl rfl ?_
          refine ExD.take (i := 6) rfl (by kernel_rfl) (pureVal_ok rfl) ((List.Sublist.refl _)) rfl rfl rfl ?_
          refine ExD.take (i := 7) rfl (by kernel_rfl) (pureVal_ok rfl) ((List.Sublist.refl _)) rfl rfl rfl ?_
          refine ExD.take (i := 8) rfl (by kernel_rfl) (fr_indexAddr (sz := 1) rfl rfl rfl rfl rfl rfl (by omega)) ((List.Sublist.refl _)) rfl rfl rfl ?_
          refine ExD.take (i := 9) rfl (by kernel_rfl) (fr_load rfl rfl rfl rfl (cellJ (i := ↑(n - d + m)) ((n - d + m)) (Reads.row (i := 0) rfl) (eI_len .i64) 0 0 rfl (by omega) (by omega) rfl)) ((List.Sublist.refl _)) rfl rfl rfl ?_
          refine ExD.take (i := 10) rfl (by kernel_rfl) (pureVal_ok rfl) ((List.Sublist.refl _)) rfl rfl rfl ?_
          refine ExD.take (i := 11) rfl (by kernel_rfl) (pureVal_ok rfl) ((List.Sublist.refl _)) rfl rfl rfl ?_
          refine ExD.take (i := 12) rfl (by kernel_rfl) (pureVal_ok rfl) ((List.Sublist.refl _)) rfl rfl rfl ?_
          refine ExD.op (i := 13) rfl (by kernel_rfl) rfl (op_ret rfl rfl rfl (c_cw1 fit n hn K hKl hCK b o As Al ns cs cl _ (n - 1 - d) (n - d + m) (by omega) (by omega)) (fun w hw => ⟨Reads.get (Reads.blk (i := 2) rfl) w hw, Reads.get (Reads.old hd) w hw, Reads.get (Reads.old hc) w hw, fun k hk => Reads.get (Reads.old (hcr k hk)) w hw⟩) rfl rfl (fun x17 hx17 => ⟨(List.Sublist.refl _), ?_⟩))
          refine ExD.take (i := 14) rfl (by kernel_rfl) (by first | exact fr_add64 rfl rfl rfl (by omega) | exact fr_add rfl rfl rfl) ((List.Sublist.refl _)) rfl rfl rfl ?_
          refine ExD.take (i := 15) rfl (by kernel_rfl) (fr_min rfl rfl rfl) ((List.Sublist.refl _)) rfl rfl rfl ?_
          refine ExD.take (i := 16) rfl (by kernel_rfl) (fr_indexAddr (sz := 1) rfl rfl rfl rfl rfl rfl (by omega)) ((List.Sublist.refl _)) rfl rfl rfl ?_
          refine ExD.last (i := 17) rfl (by kernel_rfl) (by kernel_rfl) rfl (op_storeRowF (i := 0) rfl rfl rfl rfl rfl rfl rfl rfl (room (eI_len .i64) (k := (n - 1 - d)) (by rw [bhR_len (by omega)]; omega) (by simp) rfl) (List.cons_ne_nil _ _) rfl (bhR_put (y := (inn fit n d (rl fit n d) (m + 1)).cost) (by omega) (by simp) (by rw [hba, hbh]; exact congrArg (fun z => [Value.int .i64 z]) (inn_min (by unfold candC; omega)))) ?_)
          refine ExD.done (by kernel_rfl) ?_
          refine Ex.region (ExL.pures 1 rfl ?_)
          refine ExL.free (by first | exact fr_add64 rfl rfl rfl (by omega) | exact fr_add rfl rfl rfl) rfl rfl rfl ?_
          refine ExL.pures 1 rfl ?_
          refine ExL.nil ?_
          refine Hand.mk (m + 1) 3 [0, 1, 2] ⟨agI (by omega), trivial⟩ ⟨rfl, rfl, rfl, rfl, rfl, rfl, rfl, trivial⟩ (rfl) rfl (by omega) (by omega)
        · refine ExL.nil ?_
          refine Ex.cond_f rfl ?_
          refine Ex.exit ?_
          obtain rfl : d = m := (by omega)
          refine Ex.region (ExL.pures 1 rfl ?_)
          refine ExL.free (by first | exact fr_sub64 rfl rfl rfl (by omega) | exact fr_sub rfl rfl rfl) rfl rfl rfl ?_
          refine ExL.pures 1 rfl ?_
          refine ExL.nil ?_
          refine Hand.mk (d + 1) 3 [0, 1, 2] ⟨agI (by omega), trivial⟩ ⟨rfl, rfl, rfl, rfl, rfl, rfl, trivial⟩ (by rw [← bhR_fin (by omega)]; rfl) rfl (by omega) (by omega)
      · refine ExL.nil ?_
        refine Ex.cond_f rfl ?_
        refine Ex.exit ?_
        obtain rfl : d = n - i := (by omega)
        have hfl := flO_len (fit := fit) (n := n) (i := i + 1) (by omega)
        have hfa := flO_at (fit := fit) (n := n) (i := i) (j := i + 1) (by omega)
        have hbl := bhO_len (fit := fit) (n := n) (d := n - i) (by omega)
        have hba := bhO_hi (fit := fit) (n := n) (d := n - i) (k := i) (by omega) (by omega) (by omega)
        have hxb := fin_bd (fit := fit) (i := i) (fl_bd fit i) i (Nat.le_refl _)
        have hrb := rst_bd (fit := fit) (n := n) (i := i) (by omega)
        refine Ex.drawSeqM rfl ?_
        refine ExD.take (i := 0) rfl (by kernel_rfl) (pureVal_ok rfl) ((List.Sublist.refl _)) rfl rfl rfl ?_
        refine ExD.take (i := 1) rfl (by kernel_rfl) (pureVal_ok rfl) ((List.Sublist.refl _)) rfl rfl rfl ?_
        refine ExD.take (i := 2) rfl (by kernel_rfl) (fr_indexAddr (sz := 1) rfl rfl rfl rfl rfl rfl (by omega)) ((List.Sublist.refl _)) rfl rfl rfl ?_
        refine ExD.take (i := 3) rfl (by kernel_rfl) (fr_load rfl rfl rfl rfl (cellJ (i := ↑i) (i) (Reads.row (i := 1) rfl) (eI_len .i64) 0 0 rfl (by omega) (by omega) rfl)) ((List.Sublist.refl _)) rfl rfl rfl ?_
        refine ExD.take (i := 4) rfl (by kernel_rfl) (pureVal_ok rfl) ((List.Sublist.refl _)) rfl rfl rfl ?_
        refine ExD.take (i := 5) rfl (by kernel_rfl) (pureVal_ok rfl) ((List.Sublist.refl _)) rfl rfl rfl ?_
        refine ExD.take (i := 6) rfl (by kernel_rfl) (fr_indexAddr (sz := 1) rfl rfl rfl rfl rfl rfl (by omega)) ((List.Sublist.refl _)) rfl rfl rfl ?_
        refine ExD.take (i := 7) rfl (by kernel_rfl) (fr_load rfl rfl rfl rfl (cellJ (i := ↑i) (i) (Reads.row (i := 0) rfl) (eI_len .i64) 0 0 rfl (by omega) (by omega) rfl)) ((List.Sublist.refl _)) rfl rfl rfl ?_
        refine ExD.take (i := 8) rfl (by kernel_rfl) (by first | exact fr_add64 rfl rfl rfl (by omega) | exact fr_add rfl rfl rfl) ((List.Sublist.refl _)) rfl rfl rfl ?_
        refine ExD.take (i := 9) rfl (by kernel_rfl) (pureVal_ok rfl) ((List.Sublist.refl _)) rfl rfl rfl ?_
        refine ExD.done (by kernel_rfl) ?_
        refine Ex.ret ?_
        refine RetQ.mk () rfl (.tmp rfl .nil) (tI (by unfold withV; rw [hfa, hba])) [] (rfl) rfl (trivial)
end Go.Proofs.YtddflaaccmjoeaaGreatDoor

/- What these functions of the program hand back, each proved by walking its operations. -/
set_option linter.unusedVariables false
set_option linter.unusedSimpArgs false
set_option maxRecDepth 4000
namespace Go.Proofs.YtddflaaccmjoeaaGreatDoor
open Go Go.Sx Go.RowKit Go.W Go.Proofs
attribute [local irreducible] Ex ExL ExD Op1 Free RetQ MutQ Reads CellO SegO LoadsAs
theorem e_24 : Enters Tryz.prog 24 := Enters.of Tryz.func24 rfl
theorem c_sSure (s : List Int) (hu : Nums 255 s) (As : Option Addr) (cs : Nat) (hls : s.length ≤ maxLen) (l : List VP) (Al : Option Addr) (cl : Nat) (hll : l.length ≤ maxLen) (f : VP) : Ret Tryz.prog 24 [.slice As s.length cs, .slice Al l.length cl, .agg (encP f).toArray] (fun w => Rd w As (s.flatMap (eI .u8)) ∧ Rd w Al (l.flatMap encP)) (fun x : Option Addr × Nat => .tuple #[.slice x.1 (sureV s l f).1.length x.2, .int .i64 (sureV s l f).2]) (fun x => [.row (.slice x.1 (sureV s l f).1.length x.2) 2 1 (sureV s l f).1.length ((sureV s l f).1.flatMap (eI .i64))]) (fun x => True) := by
  refine Ret.of e_24 Tryz.func24 rfl Tryz.ntmps24 rfl rfl (fun w hpre => ?_)
  have hs := hpre.1.base
  have hl := hpre.2.base
  have hm0 : maxLen = 9223372036854775807 := rfl
  refine Ex.regSeq (ExL.pures 0 rfl ?_)
  refine ExL.op rfl (op_box rfl rfl rfl rfl rfl (fun b1 => ?_))
  refine ExL.pures 2 rfl ?_
  refine ExL.nil ?_
  refine Ex.seq ?_
  refine Ex.regSeq (ExL.pures 2 rfl ?_)
  refine ExL.free (fr_loadN rfl rfl rfl rfl rfl (SegO.whole (i := 0) rfl)) rfl rfl rfl ?_
  refine ExL.op rfl (op_ret rfl rfl rfl (c_l04Asked s (by assumption) _ _ (by omega) l _ _ (by omega) f) (fun w hw => ⟨Reads.get (Reads.old hs) w hw, Reads.get (Reads.old hl) w hw⟩) rfl rfl (fun x2 hx2 => ?_))
  refine ExL.pures 1 rfl ?_
  refine ExL.nil ?_
  refine Ex.regSeq (ExL.pures 1 rfl ?_)
  refine ExL.neq rfl rfl rfl rfl rfl rfl (fun h3 => ?_) (fun h3 => ?_)
  · refine ExL.nil ?_
    refine Ex.cond_t rfl ?_
    obtain ⟨hask, hcod⟩ := askC_1 (by omega)
    rw [hcod]
    have hsu := su_1 hask
    refine Ex.regSeq (ExL.pures 0 rfl ?_)
    refine ExL.op rfl (op_buildSlice (sz := 1) rfl rfl rfl rfl rfl rfl rfl rfl (by decide) rfl rfl rfl (fun r4 => ?_))
    refine ExL.pures 3 rfl ?_
    refine ExL.nil ?_
    refine Ex.ret ?_
    refine RetQ.mk ((some ⟨r4, 0, none⟩), 0) rfl (.tmp rfl (.tmp rfl .nil)) (t2 (by first | (rw [hsu]; first | done | rfl)) (by first | (rw [hsu]; first | done | rfl))) [0] (by first | (rw [hsu]; first | done | rfl)) rfl (trivial)
  · refine ExL.nil ?_
    refine Ex.cond_f rfl ?_
    refine Ex.skip ?_
    have hask := askC_0 (s := s) (l := l) (f := f) (by omega)
    obtain ⟨hL, hf⟩ := ask_of hask
    have hLl := hL.len
    have hrl := rstL_len (fitsF s l f) l.length
    have hbc : (stV (fitsF s l f) l.length).cost = (bstV (fitsF s l f) l.length l.length).cost := rfl
    refine Ex.regSeq (ExL.pures 2 rfl ?_)
    refine ExL.free (fr_loadN rfl rfl rfl rfl rfl (SegO.whole (i := 0) rfl)) rfl rfl rfl ?_
    refine ExL.op rfl (op_ret rfl rfl rfl (c_l04Rests s (by assumption) _ _ (by omega) l _ _ (by omega) (by assumption) f (by assumption)) (fun w hw => ⟨Reads.get (Reads.old hs) w hw, Reads.get (Reads.old hl) w hw⟩) rfl rfl (fun x5 hx5 => ?_))
    refine ExL.pures 1 rfl ?_
    refine ExL.nil ?_
    refine Ex.regSeq (ExL.pures 2 rfl ?_)
    refine ExL.free (fr_loadN rfl rfl rfl rfl rfl (SegO.whole (i := 1) rfl)) rfl rfl rfl ?_
    refine ExL.op rfl (op_ret rfl rfl rfl (c_l04Best s (by assumption) _ _ (by omega) l _ _ (by omega) (by assumption) f (by assumption)) (fun w hw => ⟨Reads.get (Reads.old hs) w hw, Reads.get (Reads.old hl) w hw⟩) rfl rfl (fun x6 hx6 => ?_))
    refine ExL.free (fr_field rfl rfl rfl rfl rfl rfl rfl) rfl rfl rfl ?_
    refine ExL.pures 1 rfl ?_
    refine ExL.nil ?_
    refine Ex.regSeq (ExL.pures 2 rfl ?_)
    refine ExL.op rfl (op_makeSlice (sz := 8) rfl rfl rfl rfl rfl rfl rfl rfl (⟨by omega, by unfold maxLen; omega⟩) rfl rfl (fun r7 => ?_))
    refine ExL.pures 1 rfl ?_
    refine ExL.nil ?_
    refine Ex.regSeq (ExL.pures 0 rfl ?_)
    refine ExL.op rfl (op_buildSlice (sz := 1) rfl rfl rfl rfl rfl rfl rfl rfl (by decide) rfl rfl rfl (fun r8 => ?_))
    refine ExL.pures 1 rfl ?_
    refine ExL.nil ?_
    refine Ex.seq ?_
    refine Ex.regSeq (ExL.pures 1 rfl ?_)
    refine ExL.nil ?_
    refine Ex.block ?_
    refine Ex.loopA (fun i A c => [(12, .slice A (sureL (fitsF s l f) l.length i).length c), (13, .int .i64 i)]) (fun i A c => [.row (.slice A (sureL (fitsF s l f) l.length i).length c) 2 1 (sureL (fitsF s l f) l.length i).length ((sureL (fitsF s l f) l.length i).flatMap (eI .i64)), .row (.slice (some ⟨r7, 0, none⟩) l.length l.length) 2 1 l.length ((flO (fitsF s l f) l.length i).flatMap (eI .i64))]) (fun i => i ≤ l.length) (fun i => l.length - i) 0 ((some ⟨r8, 0, none⟩)) (0) [(0, _), (1, _), (5, _), (6, _), (7, _), (9, _), (10, _), (11, _)] [_, _] 6 [0, 1, 4, 5] ⟨rfl, rfl, trivial⟩ ⟨rfl, rfl, rfl, rfl, rfl, rfl, rfl, rfl, trivial⟩ (pkR2 (flO_zero rfl)) rfl (Nat.zero_le _) (fun i A c hI => ?_)
    have hI : i ≤ l.length := hI
    have hsl := sureL_len (fitsF s l f) l.length i
    refine Ex.seq ?_
    refine Ex.regSeq (ExL.pures 3 rfl ?_)
    refine ExL.lss rfl rfl rfl rfl rfl rfl (fun h9 => ?_) (fun h9 => ?_)
    · refine ExL.nil ?_
      refine Ex.cond_t rfl ?_
      refine Ex.skip ?_
      refine Ex.seq ?_
      refine Ex.block ?_
      refine Ex.regSeq (ExL.pures 3 rfl ?_)
      refine ExL.free (by first | exact fr_mul64 rfl rfl rfl (by omega) | exact fr_mul rfl rfl rfl) rfl rfl rfl ?_
      refine ExL.free (fr_indexAddr (sz := 1) rfl rfl rfl rfl rfl rfl (by omega)) rfl rfl rfl ?_
      refine ExL.op rfl (op_storeRowF (i := 1) rfl rfl rfl rfl rfl rfl rfl rfl (room (eI_len .i64) (k := i) (by rw [flO_len (by omega)]; omega) (by simp) rfl) (List.cons_ne_nil _ _) rfl (flO_put (x := (finV (fitsF s l f) i (fl (fitsF s l f) i) 0)) (by omega) (by simp) (by rw [Int.one_mul]; rfl)) ?_)
      refine ExL.nil ?_
      refine Ex.seq ?_
      refine Ex.regSeq (ExL.pures 1 rfl ?_)
      refine ExL.nil ?_
      refine Ex.block ?_
      refine Ex.loopK (X := Nat) (fun m => [(14, .int .i64 m)]) (fun m => [.row (.slice (some ⟨r7, 0, none⟩) l.length l.length) 2 1 l.length ((flR (fitsF s l f) l.length i (finV (fitsF s l f) i (fl (fitsF s l f) i) m)).flatMap (eI .i64))]) (fun m => m ≤ i) (fun m => i - m) 0 [(0, _), (1, _), (5, _), (6, _), (7, _), (9, _), (10, _), (11, _), (12, _), (13, _)] [_, _, _] 4 [1, 0, 2, 3] ⟨rfl, trivial⟩ ⟨rfl, rfl, rfl, rfl, rfl, rfl, rfl, rfl, rfl, rfl, trivial⟩ (rfl) rfl (Nat.zero_le _) (fun m hI => ?_)
      have hI : m ≤ i := hI
      refine Ex.seq ?_
      refine Ex.regSeq (ExL.pures 2 rfl ?_)
      refine ExL.lss rfl rfl rfl rfl rfl rfl (fun h10 => ?_) (fun h10 => ?_)
      · refine ExL.nil ?_
        refine Ex.cond_t rfl ?_
        refine Ex.skip ?_
        refine Ex.seq ?_
        refine Ex.block ?_
        have hfl := flR_len (fit := (fitsF s l f)) (n := l.length) (i := i) (x := (finV (fitsF s l f) i (fl (fitsF s l f) i) m)) (by omega)
        have ha := flR_at (fit := (fitsF s l f)) (n := l.length) (i := i) (x := (finV (fitsF s l f) i (fl (fitsF s l f) i) m))
        have hlo := flR_lo (fit := (fitsF s l f)) (n := l.length) (i := i) (k := m) (x := (finV (fitsF s l f) i (fl (fitsF s l f) i) m)) (by omega)
        have hfb := fl_bd (fitsF s l f) i m (by omega)
        have hxb := fin_bd (fit := (fitsF s l f)) (i := i) (fl_bd (fitsF s l f) i) m (by omega)
        have hbk := brk_bd (fitsF s l f m i)
        refine Ex.regSeq (ExL.pures 2 rfl ?_)
        refine ExL.free (fr_loadN rfl rfl rfl rfl rfl (SegO.whole (i := 3) rfl)) rfl rfl rfl ?_
        refine ExL.pures 2 rfl ?_
        refine ExL.op rfl (op_ret rfl rfl rfl (c_l04Step s (by assumption) _ _ (by omega) l _ _ (by omega) (by assumption) f (by assumption) m i (by omega) (by omega) (by omega)) (fun w hw => ⟨Reads.get (Reads.old hs) w hw, Reads.get (Reads.old hl) w hw⟩) rfl rfl (fun x11 hx11 => ?_))
        refine ExL.pures 5 rfl ?_
        refine ExL.nil ?_
        refine Ex.drawM rfl ?_
        refine ExD.take (i := 0) rfl (by kernel_rfl) (pureVal_ok rfl) ((List.Sublist.refl _)) rfl rfl rfl ?_
        refine ExD.take (i := 1) rfl (by kernel_rfl) (pureVal_ok rfl) ((List.Sublist.refl _)) rfl rfl rfl ?_
        refine ExD.take (i := 2) rfl (by kernel_rfl) (pureVal_ok rfl) ((List.Sublist.refl _)) rfl rfl rfl ?_
        refine ExD.take (i := 3) rfl (by kernel_rfl) (pureVal_ok rfl) ((List.Sublist.refl _)) rfl rfl rfl ?_
        refine ExD.take (i := 4) rfl (by kernel_rfl) (fr_indexAddr (sz := 1) rfl rfl rfl rfl rfl rfl (by omega)) ((List.Sublist.refl _)) rfl rfl rfl ?_
        refine ExD.take (i := 5) rfl (by kernel_rfl) (fr_load rfl rfl rfl rfl (by first | exact cellN (Reads.row (i := 0) rfl) (eI_len .i64) 0 0 rfl (by omega) rfl | exact cellF (Reads.row (i := 0) rfl) (eI_len .i64) 0 0 rfl (by omega) rfl)) ((List.Sublist.refl _)) rfl rfl rfl ?_
        refine ExD.take (i := 6) rfl (by kernel_rfl) (pureVal_ok rfl) ((List.Sublist.refl _)) rfl rfl rfl ?_
        refine ExD.take (i := 7) rfl (by kernel_rfl) (pureVal_ok rfl) ((List.Sublist.refl _)) rfl rfl rfl ?_
        refine ExD.take (i := 8) rfl (by kernel_rfl) (fr_indexAddr (sz := 1) rfl rfl rfl rfl rfl rfl (by omega)) ((List.Sublist.refl _)) rfl rfl rfl ?_
        refine ExD.take (i := 9) rfl (by kernel_rfl) (fr_load rfl rfl rfl rfl (by first | exact cellN (Reads.row (i := 0) rfl) (eI_len .i64) 0 0 rfl (by omega) rfl | exact cellF (Reads.row (i := 0) rfl) (eI_len .i64) 0 0 rfl (by omega) rfl)) ((List.Sublist.refl _)) rfl rfl rfl ?_
        refine ExD.take (i := 10) rfl (by kernel_rfl) (pureVal_ok rfl) ((List.Sublist.refl _)) rfl rfl rfl ?_
        refine ExD.take (i := 11) rfl (by kernel_rfl) (by first | exact fr_add64 rfl rfl rfl (by omega) | exact fr_add rfl rfl rfl) ((List.Sublist.refl _)) rfl rfl rfl ?_
        refine ExD.op (i := 12) rfl (by kernel_rfl) rfl (op_ret rfl rfl rfl (c_l00Min _ _) (fun _ _ => trivial) rfl rfl (fun x12 hx12 => ⟨(List.Sublist.refl _), ?_⟩))
        refine ExD.take (i := 13) rfl (by kernel_rfl) (fr_indexAddr (sz := 1) rfl rfl rfl rfl rfl rfl (by omega)) ((List.Sublist.refl _)) rfl rfl rfl ?_
        refine ExD.last (i := 14) rfl (by kernel_rfl) (by kernel_rfl) rfl (op_storeRowF (i := 0) rfl rfl rfl rfl rfl rfl rfl rfl (room (eI_len .i64) (k := i) (by rw [flR_len (by omega)]; omega) (by simp) rfl) (List.cons_ne_nil _ _) rfl (flR_put (y := (finV (fitsF s l f) i (fl (fitsF s l f) i) (m + 1))) (by omega) (by simp) (by rw [ha, hlo]; exact congrArg (fun z => [Value.int .i64 z]) (fin_step (by omega)))) ?_)
        refine ExD.done (by kernel_rfl) ?_
        refine Ex.region (ExL.pures 1 rfl ?_)
        refine ExL.free (by first | exact fr_add64 rfl rfl rfl (by omega) | exact fr_add rfl rfl rfl) rfl rfl rfl ?_
        refine ExL.pures 1 rfl ?_
        refine ExL.nil ?_
        refine Hand.mk (m + 1) 4 [0, 1, 2, 3] ⟨rfl, trivial⟩ ⟨rfl, rfl, rfl, rfl, rfl, rfl, rfl, rfl, rfl, rfl, trivial⟩ (rfl) rfl (by omega) (by omega)
      · refine ExL.nil ?_
        refine Ex.cond_f rfl ?_
        refine Ex.exit ?_
        obtain rfl : i = m := (by omega)
        have hfl := flR_len (fit := (fitsF s l f)) (n := l.length) (i := i) (x := (finV (fitsF s l f) i (fl (fitsF s l f) i) i)) (by omega)
        have ha := flR_at (fit := (fitsF s l f)) (n := l.length) (i := i) (x := (finV (fitsF s l f) i (fl (fitsF s l f) i) i))
        have hxb := fin_bd (fit := (fitsF s l f)) (i := i) (fl_bd (fitsF s l f) i) i (Nat.le_refl _)
        have hrb := rst_bd (fit := (fitsF s l f)) (n := l.length) (i := i) (by omega)
        refine Ex.drawSeqM rfl ?_
        refine ExD.take (i := 0) rfl (by kernel_rfl) (pureVal_ok rfl) ((List.Sublist.refl _)) rfl rfl rfl ?_
        refine ExD.take (i := 1) rfl (by kernel_rfl) (pureVal_ok rfl) ((List.Sublist.refl _)) rfl rfl rfl ?_
        refine ExD.take (i := 2) rfl (by kernel_rfl) (fr_indexAddr (sz := 1) rfl rfl rfl rfl rfl rfl (by omega)) ((List.Sublist.refl _)) rfl rfl rfl ?_
        refine ExD.take (i := 3) rfl (by kernel_rfl) (fr_load rfl rfl rfl rfl (by first | exact cellN (Reads.row (i := 0) rfl) (eI_len .i64) 0 0 rfl (by omega) rfl | exact cellF (Reads.row (i := 0) rfl) (eI_len .i64) 0 0 rfl (by omega) rfl)) ((List.Sublist.refl _)) rfl rfl rfl ?_
        refine ExD.take (i := 4) rfl (by kernel_rfl) (pureVal_ok rfl) ((List.Sublist.refl _)) rfl rfl rfl ?_
        refine ExD.take (i := 5) rfl (by kernel_rfl) (pureVal_ok rfl) ((List.Sublist.refl _)) rfl rfl rfl ?_
        refine ExD.take (i := 6) rfl (by kernel_rfl) (fr_indexAddr (sz := 3) rfl rfl rfl rfl rfl rfl (by omega)) ((List.Sublist.refl _)) rfl rfl rfl ?_
        refine ExD.take (i := 7) rfl (by kernel_rfl) (fr_fieldAddrF (i := (↑i : Int).toNat) (Reads.row (i := 2) rfl) encR_len rfl rfl rfl (by omega) rfl rfl rfl rfl) ((List.Sublist.refl _)) rfl rfl rfl ?_
        refine ExD.take (i := 8) rfl (by kernel_rfl) (fr_load rfl rfl rfl rfl (by first | exact cellN (Reads.row (i := 2) rfl) encR_len zR 0 rfl (by omega) rfl | exact cellF (Reads.row (i := 2) rfl) encR_len zR 0 rfl (by omega) rfl)) ((List.Sublist.refl _)) rfl rfl rfl ?_
        refine ExD.take (i := 9) rfl (by kernel_rfl) (by first | exact fr_add64 rfl rfl rfl (by omega) | exact fr_add rfl rfl rfl) ((List.Sublist.refl _)) rfl rfl rfl ?_
        refine ExD.take (i := 10) rfl (by kernel_rfl) (pureVal_ok rfl) ((List.Sublist.refl _)) rfl rfl rfl ?_
        refine ExD.cmp_gtr (i := 11) rfl (by kernel_rfl) rfl rfl rfl ((List.Sublist.refl _)) rfl rfl rfl (fun h13 => ?_) (fun h13 => ?_)
        · refine ExD.done (by kernel_rfl) ?_
          refine Ex.cond_t rfl ?_
          refine Ex.region (ExL.pures 2 rfl ?_)
          refine ExL.op rfl (op_buildSlice (sz := 1) rfl rfl rfl rfl rfl rfl rfl rfl (by decide) rfl rfl rfl (fun r14 => ?_))
          refine ExL.op rfl (op_append (sz := 1) (bytes := 8) (i := 2) rfl rfl rfl rfl (Reads.row (i := 0) rfl) rfl (fun e => nomatch e) rfl rfl rfl rfl (by constructor <;> first | omega | (unfold maxLen; omega)) rfl rfl (fun A15 cA15 => ?_))
          refine ExL.pures 1 rfl ?_
          refine ExL.nil ?_
          refine Ex.region (ExL.pures 1 rfl ?_)
          refine ExL.free (by first | exact fr_add64 rfl rfl rfl (by omega) | exact fr_add rfl rfl rfl) rfl rfl rfl ?_
          refine ExL.pures 1 rfl ?_
          refine ExL.nil ?_
          refine HandA.of (i + 1) (A15) (cA15) 5 [2, 1, 3, 4] ⟨(by first | (rw [sure_y (by omega), List.length_append]; rfl) | (rw [sure_n (by omega)]; first | done | rfl)), rfl, trivial⟩ ⟨rfl, rfl, rfl, rfl, rfl, rfl, rfl, rfl, trivial⟩ (by rw [← flR_fin (by omega)]; first | (rw [sure_y (by omega), List.length_append, List.flatMap_append]; rfl) | (rw [sure_n (by omega)]; first | done | rfl)) rfl (by omega) (by omega)
        · refine ExD.done (by kernel_rfl) ?_
          refine Ex.cond_f rfl ?_
          refine Ex.skip ?_
          refine Ex.region (ExL.pures 1 rfl ?_)
          refine ExL.free (by first | exact fr_add64 rfl rfl rfl (by omega) | exact fr_add rfl rfl rfl) rfl rfl rfl ?_
          refine ExL.pures 1 rfl ?_
          refine ExL.nil ?_
          refine HandA.of (i + 1) (A) (c) 4 [1, 0, 2, 3] ⟨(by first | (rw [sure_y (by omega), List.length_append]; rfl) | (rw [sure_n (by omega)]; first | done | rfl)), rfl, trivial⟩ ⟨rfl, rfl, rfl, rfl, rfl, rfl, rfl, rfl, trivial⟩ (by rw [← flR_fin (by omega)]; first | (rw [sure_y (by omega), List.length_append, List.flatMap_append]; rfl) | (rw [sure_n (by omega)]; first | done | rfl)) rfl (by omega) (by omega)
    · refine ExL.nil ?_
      refine Ex.cond_f rfl ?_
      refine Ex.exit ?_
      have hsu := su_0 (s := s) (l := l) (f := f) (k := i) hask (by omega)
      refine Ex.regSeq (ExL.pures 3 rfl ?_)
      refine ExL.nil ?_
      refine Ex.ret ?_
      refine RetQ.mk (A, c) rfl (.tmp rfl (.tmp rfl .nil)) (t2 (by first | (rw [hsu]; first | done | rfl)) (by first | (rw [hsu]; first | done | rfl))) [0] (by first | (rw [hsu]; first | done | rfl)) rfl (trivial)
end Go.Proofs.YtddflaaccmjoeaaGreatDoor

/- What these functions of the program hand back, each proved by walking its operations. -/
set_option linter.unusedVariables false
set_option linter.unusedSimpArgs false
set_option maxRecDepth 4000
namespace Go.Proofs.YtddflaaccmjoeaaGreatDoor
open Go Go.Sx Go.RowKit Go.W Go.Proofs
attribute [local irreducible] Ex ExL ExD Op1 Free RetQ MutQ Reads CellO SegO LoadsAs
theorem e_23 : Enters Tryz.prog 23 := Enters.of Tryz.func23 rfl
theorem c_iSure_f (s : List Int) (hu : Nums 255 s) (As : Option Addr) (cs : Nat) (hls : s.length ≤ maxLen) (l : List VP) (Al : Option Addr) (cl : Nat) (hll : l.length ≤ maxLen) (f : VP) (hask : askS s l f = false) : Ret Tryz.prog 23 [.slice As s.length cs, .slice Al l.length cl, .agg (encP f).toArray] (fun w => Rd w As (s.flatMap (eI .u8)) ∧ Rd w Al (l.flatMap encP)) (fun x : Option Addr × Nat => .tuple #[.slice x.1 (sureV s l f).1.length x.2, .int .i64 (sureV s l f).2]) (fun x => [.row (.slice x.1 (sureV s l f).1.length x.2) 2 1 (sureV s l f).1.length ((sureV s l f).1.flatMap (eI .i64))]) (fun x => True) := by
  refine Ret.of e_23 Tryz.func23 rfl Tryz.ntmps23 rfl rfl (fun w hpre => ?_)
  have hs := hpre.1.base
  have hl := hpre.2.base
  have hm0 : maxLen = 9223372036854775807 := rfl
  have hsu := su_1 hask
  refine Ex.regSeq (ExL.pures 0 rfl ?_)
  refine ExL.op rfl (op_box rfl rfl rfl rfl rfl (fun b1 => ?_))
  refine ExL.pures 2 rfl ?_
  refine ExL.nil ?_
  refine Ex.regSeq (ExL.pures 2 rfl ?_)
  refine ExL.free (fr_loadN rfl rfl rfl rfl rfl (SegO.whole (i := 0) rfl)) rfl rfl rfl ?_
  refine ExL.op rfl (op_ret rfl rfl rfl (c_detOf_f s (by assumption) _ _ (by omega) l _ _ (by omega) f hask) (fun w hw => ⟨Reads.get (Reads.old hs) w hw, Reads.get (Reads.old hl) w hw⟩) rfl rfl (fun x2 hx2 => ?_))
  refine ExL.pures 1 rfl ?_
  refine ExL.nil ?_
  refine Ex.seq ?_
  refine Ex.regSeq (ExL.pures 1 rfl ?_)
  refine ExL.free (fr_eql_ptr_n rfl rfl rfl rfl) rfl rfl rfl ?_
  refine ExL.nil ?_
  refine Ex.cond_t rfl ?_
  refine Ex.regSeq (ExL.pures 2 rfl ?_)
  refine ExL.nil ?_
  refine Ex.nilRow 2 1 ?_
  refine Ex.ret ?_
  refine RetQ.mk (none, 0) rfl (.tmp rfl (.tmp rfl .nil)) (t2 (by (rw [hsu]; first | done | rfl)) (by (rw [hsu]; first | done | rfl))) [0] (by (rw [hsu]; first | done | rfl)) rfl (trivial)
theorem c_iSure_t (s : List Int) (hu : Nums 255 s) (As : Option Addr) (cs : Nat) (hls : s.length ≤ maxLen) (l : List VP) (Al : Option Addr) (cl : Nat) (hll : l.length ≤ maxLen) (f : VP) (hask : askS s l f = true) : Ret Tryz.prog 23 [.slice As s.length cs, .slice Al l.length cl, .agg (encP f).toArray] (fun w => Rd w As (s.flatMap (eI .u8)) ∧ Rd w Al (l.flatMap encP)) (fun x : Option Addr × Nat => .tuple #[.slice x.1 (sureV s l f).1.length x.2, .int .i64 (sureV s l f).2]) (fun x => [.row (.slice x.1 (sureV s l f).1.length x.2) 2 1 (sureV s l f).1.length ((sureV s l f).1.flatMap (eI .i64))]) (fun x => True) := by
  refine Ret.of e_23 Tryz.func23 rfl Tryz.ntmps23 rfl rfl (fun w hpre => ?_)
  have hs := hpre.1.base
  have hl := hpre.2.base
  have hm0 : maxLen = 9223372036854775807 := rfl
  obtain ⟨hL, hf⟩ := ask_of hask
  have hLl := hL.len
  refine Ex.regSeq (ExL.pures 0 rfl ?_)
  refine ExL.op rfl (op_box rfl rfl rfl rfl rfl (fun b1 => ?_))
  refine ExL.pures 2 rfl ?_
  refine ExL.nil ?_
  refine Ex.regSeq (ExL.pures 2 rfl ?_)
  refine ExL.free (fr_loadN rfl rfl rfl rfl rfl (SegO.whole (i := 0) rfl)) rfl rfl rfl ?_
  refine ExL.op rfl (op_ret rfl rfl rfl (c_detOf_t s (by assumption) _ _ (by omega) l _ _ (by omega) f hask) (fun w hw => ⟨Reads.get (Reads.old hs) w hw, Reads.get (Reads.old hl) w hw⟩) rfl rfl (fun x2 hx2 => ?_))
  refine ExL.pures 1 rfl ?_
  refine ExL.nil ?_
  refine Ex.seq ?_
  refine Ex.regSeq (ExL.pures 1 rfl ?_)
  refine ExL.free (fr_eql_ptr_s rfl rfl rfl rfl) rfl rfl rfl ?_
  refine ExL.nil ?_
  refine Ex.cond_f rfl ?_
  refine Ex.skip ?_
  refine Ex.regSeq (ExL.pures 0 rfl ?_)
  refine ExL.op rfl (op_buildSlice (sz := 1) rfl rfl rfl rfl rfl rfl rfl rfl (by decide) rfl rfl rfl (fun r3 => ?_))
  refine ExL.pures 1 rfl ?_
  refine ExL.op rfl (op_ret rfl rfl rfl (c_best (fitsF s l f) l.length (by omega) x2.K hx2.1 hx2.2 _ _ _ _ _ _ _ (-1)) (fun w hw => ⟨Reads.get (Reads.blk (i := 1) rfl) w hw, Reads.get (Reads.row (i := 2) rfl) w hw, fun k hk => Reads.get (readsX (i := 3) rfl hk) w hw⟩) rfl rfl (fun x4 hx4 => ?_))
  have hbc : x4.1.cost = (bstV (fitsF s l f) l.length l.length).cost := by have := congrArg (·.cost) hx4; rw [best_cost] at this; exact this
  refine ExL.free (fr_field rfl rfl rfl rfl rfl rfl rfl) rfl rfl rfl ?_
  refine ExL.pures 2 rfl ?_
  refine ExL.nil ?_
  refine Ex.seq ?_
  refine Ex.regSeq (ExL.pures 3 rfl ?_)
  refine ExL.nil ?_
  refine Ex.block ?_
  refine Ex.loopA (fun k A c => [(9, .slice A (sureL (fitsF s l f) l.length k).length c), (24, .int .i64 k)]) (fun k A c => [.row (.slice A (sureL (fitsF s l f) l.length k).length c) 2 1 (sureL (fitsF s l f) l.length k).length ((sureL (fitsF s l f) l.length k).flatMap (eI .i64))]) (fun k => k ≤ l.length) (fun k => l.length - k) 0 ((some ⟨r3, 0, none⟩)) (0) [(6, _), (7, _), (8, _), (10, _), (23, _)] [_, _, _] 6 [1, 2, 3, 4] ⟨rfl, rfl, trivial⟩ ⟨rfl, rfl, rfl, rfl, rfl, trivial⟩ (rfl) rfl (Nat.zero_le _) (fun k A c hI => ?_)
  have hI : k ≤ l.length := hI
  have hsl := sureL_len (fitsF s l f) l.length k
  have hwv : withV (fitsF s l f) l.length k = finV (fitsF s l f) k (fl (fitsF s l f) k) k + ((rstL (fitsF s l f) l.length).getD k zR).cost := rfl
  refine Ex.regSeq (ExL.pures 0 rfl ?_)
  refine ExL.lss rfl rfl rfl rfl rfl rfl (fun h5 => ?_) (fun h5 => ?_)
  · refine ExL.nil ?_
    refine Ex.seq ?_
    refine Ex.cond_t rfl ?_
    refine Ex.skip ?_
    refine Ex.seq ?_
    refine Ex.block ?_
    refine Ex.regSeq (ExL.pures 2 rfl ?_)
    refine ExL.nil ?_
    refine Ex.regSeq (ExL.pures 2 rfl ?_)
    refine ExL.op rfl (op_ret rfl rfl rfl (c_costWith (fitsF s l f) l.length (by omega) x2.K hx2.1 hx2.2 _ _ _ _ _ _ _ k (by omega)) (fun w hw => ⟨Reads.get (Reads.blk (i := 1) rfl) w hw, Reads.get (Reads.row (i := 2) rfl) w hw, fun k hk => Reads.get (readsX (i := 3) rfl hk) w hw⟩) rfl rfl (fun x6 hx6 => ?_))
    refine ExL.pures 1 rfl ?_
    refine ExL.gtr rfl rfl rfl rfl rfl rfl (fun h7 => ?_) (fun h7 => ?_)
    · refine ExL.nil ?_
      refine Ex.cond_t rfl ?_
      refine Ex.region (ExL.pures 2 rfl ?_)
      refine ExL.op rfl (op_buildSlice (sz := 1) rfl rfl rfl rfl rfl rfl rfl rfl (by decide) rfl rfl rfl (fun r8 => ?_))
      refine ExL.op rfl (op_append (sz := 1) (bytes := 8) (i := 1) rfl rfl rfl rfl (Reads.row (i := 0) rfl) rfl (fun e => nomatch e) rfl rfl rfl rfl (by constructor <;> first | omega | (unfold maxLen; omega)) rfl rfl (fun A9 cA9 => ?_))
      refine ExL.pures 1 rfl ?_
      refine ExL.nil ?_
      refine Ex.region (ExL.pures 0 rfl ?_)
      refine ExL.free (by first | exact fr_add64 rfl rfl rfl (by omega) | exact fr_add rfl rfl rfl) rfl rfl rfl ?_
      refine ExL.pures 1 rfl ?_
      refine ExL.nil ?_
      refine HandA.of (k + 1) (A9) (cA9) 5 [1, 2, 3, 4] ⟨(by first | (rw [sure_y (by omega), List.length_append]; rfl) | (rw [sure_n (by omega)]; first | done | rfl)), rfl, trivial⟩ ⟨rfl, rfl, rfl, rfl, rfl, trivial⟩ (by first | (rw [sure_y (by omega), List.length_append, List.flatMap_append]; rfl) | (rw [sure_n (by omega)]; first | done | rfl)) rfl (by omega) (by omega)
    · refine ExL.nil ?_
      refine Ex.cond_f rfl ?_
      refine Ex.skip ?_
      refine Ex.region (ExL.pures 0 rfl ?_)
      refine ExL.free (by first | exact fr_add64 rfl rfl rfl (by omega) | exact fr_add rfl rfl rfl) rfl rfl rfl ?_
      refine ExL.pures 1 rfl ?_
      refine ExL.nil ?_
      refine HandA.of (k + 1) (A) (c) 4 [0, 1, 2, 3] ⟨(by first | (rw [sure_y (by omega), List.length_append]; rfl) | (rw [sure_n (by omega)]; first | done | rfl)), rfl, trivial⟩ ⟨rfl, rfl, rfl, rfl, rfl, trivial⟩ (by first | (rw [sure_y (by omega), List.length_append, List.flatMap_append]; rfl) | (rw [sure_n (by omega)]; first | done | rfl)) rfl (by omega) (by omega)
  · refine ExL.nil ?_
    refine Ex.seq ?_
    refine Ex.cond_f rfl ?_
    refine Ex.exit ?_
    have hsu := su_0 (s := s) (l := l) (f := f) (k := k) hask (by omega)
    refine Ex.regSeq (ExL.pures 3 rfl ?_)
    refine ExL.nil ?_
    refine Ex.ret ?_
    refine RetQ.mk (A, c) rfl (.tmp rfl (.tmp rfl .nil)) (t2 (by first | (rw [hsu]; first | done | rfl)) (by first | (rw [hsu]; first | done | rfl))) [0] (by first | (rw [hsu]; first | done | rfl)) rfl (trivial)
theorem c_iSure (s : List Int) (hu : Nums 255 s) (As : Option Addr) (cs : Nat) (hls : s.length ≤ maxLen) (l : List VP) (Al : Option Addr) (cl : Nat) (hll : l.length ≤ maxLen) (f : VP) : Ret Tryz.prog 23 [.slice As s.length cs, .slice Al l.length cl, .agg (encP f).toArray] (fun w => Rd w As (s.flatMap (eI .u8)) ∧ Rd w Al (l.flatMap encP)) (fun x : Option Addr × Nat => .tuple #[.slice x.1 (sureV s l f).1.length x.2, .int .i64 (sureV s l f).2]) (fun x => [.row (.slice x.1 (sureV s l f).1.length x.2) 2 1 (sureV s l f).1.length ((sureV s l f).1.flatMap (eI .i64))]) (fun x => True) := by
  cases h : askS s l f with
  | false => exact c_iSure_f s hu As cs hls l Al cl hll f h
  | true => exact c_iSure_t s hu As cs hls l Al cl hll f h
end Go.Proofs.YtddflaaccmjoeaaGreatDoor

/-
  DERIVED: THE SHELF's CONTRACTS AT THIS DUMP, IN PLAIN WORDS (tools/lay-plain.mjs out of 'TryzShelf.lean', which tools/lay-shelf.mjs wrote): THE SAME DECLARATIONS UNDER THE SAME NAMES: 'import', 'namespace', 'open', 'def', 'theorem' AND NOTHING ELSE: no command of the shelf's: FOR A HAND-IN. Each laying: the table of numbers ('.._ren') and one theorem, a field a fact of the dump's own or the kernel's comparison; each contract: ONE APPLICATION.
-/
namespace Go.Proofs
open Go.Shelf
def Tryz.lays156_ren : Go.Shelf.Ren := ⟨fun | 156 => 86 | 165 => 109 | 166 => 42 | 169 => 46 | 240 => 83 | 241 => 132 | 276 => 106 | 277 => 149 | n => n, fun | 31 => 72 | 9 => 9 | 3 => 3 | 4 => 4 | 0 => 0 | 20 => 20 | 72 => 88 | 76 => 91 | 70 => 86 | 37 => 22 | 75 => 90 | 127 => 137 | 164 => 151 | 5 => 5 | 80 => 96 | n => n, fun | n => n⟩
theorem Tryz.lays156 : Go.Proofs.Lays.n156 Tryz.prog Tryz.lays156_ren := {
  mixed := by kernel_rfl
  f156 := Tryz.func86.trans (congrArg some (by kernel_rfl))
  f165 := Tryz.func109.trans (congrArg some (by kernel_rfl))
  f166 := Tryz.func42.trans (congrArg some (by kernel_rfl))
  f169 := Tryz.func46.trans (congrArg some (by kernel_rfl))
  f240 := Tryz.func83.trans (congrArg some (by kernel_rfl))
  f241 := Tryz.func132.trans (congrArg some (by kernel_rfl))
  f276 := Tryz.func106.trans (congrArg some (by kernel_rfl))
  f277 := Tryz.func149.trans (congrArg some (by kernel_rfl))
  t0 := Tryz.underlying0
  a0 := Tryz.isAgg0
  z0 := Tryz.sizeOf0
  v0 := Tryz.zeroValue0
  t3 := Tryz.underlying3
  a3 := Tryz.isAgg3
  z3 := Tryz.sizeOf3
  v3 := Tryz.zeroValue3
  t4 := Tryz.underlying4
  a4 := Tryz.isAgg4
  z4 := Tryz.sizeOf4
  v4 := Tryz.zeroValue4
  t9 := Tryz.underlying9
  a9 := Tryz.isAgg9
  z9 := Tryz.sizeOf9
  v9 := Tryz.zeroValue9
  t20 := Tryz.underlying20
  a20 := Tryz.isAgg20
  z20 := Tryz.sizeOf20
  v20 := Tryz.zeroValue20
  t31 := Tryz.underlying72
  a31 := Tryz.isAgg72
  z31 := Tryz.sizeOf72
  v31 := Tryz.zeroValue72
  t37 := Tryz.underlying22
  a37 := Tryz.isAgg22
  z37 := Tryz.sizeOf22
  v37 := Tryz.zeroValue22
  t70 := Tryz.underlying86
  a70 := Tryz.isAgg86
  z70 := Tryz.sizeOf86
  v70 := Tryz.zeroValue86
  t72 := Tryz.underlying88
  a72 := Tryz.isAgg88
  z72 := Tryz.sizeOf88
  v72 := Tryz.zeroValue88
  t75 := Tryz.underlying90
  a75 := Tryz.isAgg90
  z75 := Tryz.sizeOf90
  v75 := Tryz.zeroValue90
  t76 := Tryz.underlying91
  a76 := Tryz.isAgg91
  z76 := Tryz.sizeOf91
  v76 := Tryz.zeroValue91
  t127 := Tryz.underlying137
  a127 := Tryz.isAgg137
  z127 := Tryz.sizeOf137
  v127 := Tryz.zeroValue137
  t164 := Tryz.underlying151
  a164 := Tryz.isAgg151
  z164 := Tryz.sizeOf151
  v164 := Tryz.zeroValue151 }
theorem Tryz.Builder_Extra_156 : Builder.Extra Tryz.prog Tryz.lays156_ren := {
  sizeBuilder := by kernel_rfl
  liesBuilder := by kernel_rfl
  t5 := Tryz.underlying5
  a5 := Tryz.isAgg5
  z5 := Tryz.sizeOf5
  v5 := Tryz.zeroValue5
  infoByte := by kernel_rfl
  cellsByte := by kernel_rfl
  sizeByte := by kernel_rfl
  neB5 := by decide }
open Go.RowKit in
/-- No element: the empty string; the world is as it was. (Whatever the slice's address and capacity: a nil slice too.) (LAID: no walk: one application.) -/
theorem Tryz.strings_Join_none (a : Option Addr) (c : Nat) (sep : ByteArray) (w : World) :
    Calls Tryz.prog 86 #[.slice a 0 c, .string sep] w fun e w' => e = .returned (.string ⟨#[]⟩) ∧ w' = w := Any.strings_Join_none Tryz.lays156 Tryz.Builder_Extra_156 a c sep w
open Go.RowKit in
/-- strings.Join: "Join concatenates the elements of its first argument to create a single string. The separator string sep is placed between elements in the resulting string.": HOWEVER MANY ELEMENTS. Below the heap's end the world is as it was. (LAID: no walk: one application.) -/
theorem Tryz.strings_Join (bk o c : Nat) (xs : List ByteArray) (sep : ByteArray) (w : World) (hcells : ∀ (j : Nat) x, xs[j]? = some x → w.cell? ⟨bk, o + j, none⟩ = some (.string x)) (hbk : bk < w.heap.size) (hN : xs.length ≤ 140737488355328) (hcap : xs.length ≤ c) (hlen : (Lib.join (xs.map (·.data.toList)) sep.data.toList).length ≤ 140737488355328) :
    Calls Tryz.prog 86 #[.slice (some ⟨bk, o, none⟩) xs.length c, .string sep] w fun e w' => e = .returned (.string ⟨(Lib.join (xs.map (·.data.toList)) sep.data.toList).toArray⟩) ∧ Below w.heap.size w w' := Any.strings_Join Tryz.lays156 Tryz.Builder_Extra_156 bk o c xs sep w hcells hbk hN hcap hlen
def Tryz.laysM173_ren : Go.Shelf.Ren := ⟨fun | 173 => 84 | 246 => 107 | 283 => 125 | 284 => 126 | 285 => 127 | 286 => 128 | 129 => 142 | 317 => 141 | 318 => 143 | 319 => 144 | 320 => 145 | 337 => 152 | 338 => 153 | n => n, fun | 2 => 2 | 3 => 3 | 9 => 9 | 4 => 4 | 171 => 166 | 0 => 0 | 53 => 111 | 37 => 22 | 5 => 5 | 173 => 169 | 212 => 186 | 51 => 178 | 20 => 20 | 213 => 187 | 46 => 141 | 232 => 202 | 233 => 203 | n => n, fun | 17 => 3 | 18 => 6 | 19 => 7 | n => n⟩
theorem Tryz.laysM173 : Go.Proofs.LaysM.n173 Tryz.prog Tryz.laysM173_ren := {
  mixed := by kernel_rfl
  f129 := Tryz.func142.trans (congrArg some (by kernel_rfl))
  f173 := Tryz.func84.trans (congrArg some (by kernel_rfl))
  f246 := Tryz.func107.trans (congrArg some (by kernel_rfl))
  f283 := Tryz.func125.trans (congrArg some (by kernel_rfl))
  f284 := Tryz.func126.trans (congrArg some (by kernel_rfl))
  f285 := Tryz.func127.trans (congrArg some (by kernel_rfl))
  f286 := Tryz.func128.trans (congrArg some (by kernel_rfl))
  f317 := Tryz.func141.trans (congrArg some (by kernel_rfl))
  f318 := Tryz.func143.trans (congrArg some (by kernel_rfl))
  f319 := Tryz.func144.trans (congrArg some (by kernel_rfl))
  f320 := Tryz.func145.trans (congrArg some (by kernel_rfl))
  f337 := Tryz.func152.trans (congrArg some (by kernel_rfl))
  f338 := Tryz.func153.trans (congrArg some (by kernel_rfl))
  t0 := Tryz.underlying0
  a0 := Tryz.isAgg0
  z0 := Tryz.sizeOf0
  v0 := Tryz.zeroValue0
  t2 := Tryz.underlying2
  a2 := Tryz.isAgg2
  z2 := Tryz.sizeOf2
  v2 := Tryz.zeroValue2
  t3 := Tryz.underlying3
  a3 := Tryz.isAgg3
  z3 := Tryz.sizeOf3
  v3 := Tryz.zeroValue3
  t4 := Tryz.underlying4
  a4 := Tryz.isAgg4
  z4 := Tryz.sizeOf4
  v4 := Tryz.zeroValue4
  t5 := Tryz.underlying5
  a5 := Tryz.isAgg5
  z5 := Tryz.sizeOf5
  v5 := Tryz.zeroValue5
  t9 := Tryz.underlying9
  a9 := Tryz.isAgg9
  z9 := Tryz.sizeOf9
  v9 := Tryz.zeroValue9
  t20 := Tryz.underlying20
  a20 := Tryz.isAgg20
  z20 := Tryz.sizeOf20
  v20 := Tryz.zeroValue20
  t37 := Tryz.underlying22
  a37 := Tryz.isAgg22
  z37 := Tryz.sizeOf22
  v37 := Tryz.zeroValue22
  t46 := Tryz.underlying141
  a46 := Tryz.isAgg141
  z46 := Tryz.sizeOf141
  v46 := Tryz.zeroValue141
  t51 := Tryz.underlying178
  a51 := Tryz.isAgg178
  z51 := Tryz.sizeOf178
  v51 := Tryz.zeroValue178
  t53 := Tryz.underlying111
  a53 := Tryz.isAgg111
  z53 := Tryz.sizeOf111
  v53 := Tryz.zeroValue111
  t171 := Tryz.underlying166
  a171 := Tryz.isAgg166
  z171 := Tryz.sizeOf166
  v171 := Tryz.zeroValue166
  t173 := Tryz.underlying169
  a173 := Tryz.isAgg169
  z173 := Tryz.sizeOf169
  v173 := Tryz.zeroValue169
  t212 := Tryz.underlying186
  a212 := Tryz.isAgg186
  z212 := Tryz.sizeOf186
  v212 := Tryz.zeroValue186
  t213 := Tryz.underlying187
  a213 := Tryz.isAgg187
  z213 := Tryz.sizeOf187
  t232 := Tryz.underlying202
  a232 := Tryz.isAgg202
  z232 := Tryz.sizeOf202
  v232 := Tryz.zeroValue202
  t233 := Tryz.underlying203
  a233 := Tryz.isAgg203
  z233 := Tryz.sizeOf203
  v233 := Tryz.zeroValue203
  g17 := by kernel_rfl
  g18 := by kernel_rfl
  g19 := by kernel_rfl
  i0 := by kernel_rfl
  i2 := by kernel_rfl
  i3 := by kernel_rfl
  i4 := by kernel_rfl
  i5 := by kernel_rfl
  i9 := by kernel_rfl
  i20 := by kernel_rfl
  i37 := by kernel_rfl
  i46 := by kernel_rfl
  i51 := by kernel_rfl
  i53 := by kernel_rfl
  i171 := by kernel_rfl
  i173 := by kernel_rfl
  i212 := by kernel_rfl
  i232 := by kernel_rfl
  i233 := by kernel_rfl
  m17 := by kernel_rfl
  m18 := by kernel_rfl
  m19 := by kernel_rfl }
open Go.RowKit Go.Sort Go.Lib in
/-- strconv.FormatInt: "FormatInt returns the string representation of i in the given base": AT BASE 10: i's decimal numeral, for every int64. (LAID: no walk: one application.) -/
theorem Tryz.strconv_FormatInt_10 (n : Int) (h0 : -9223372036854775808 ≤ n) (h1 : n ≤ 9223372036854775807) (w : World) (htab : Lib.TabIs Tryz.prog w "internal/strconv.uint64pow10" .u64 Lib.pow10Tab) :
    Calls Tryz.prog 84 #[.int .i64 n, .int .i64 10] w fun e w' => e = .returned (.string ⟨(Lib.itoa n).toArray⟩) ∧ ∃ k os, w' = grow (w.drewN k) os := Any.strconv_FormatInt_10 Tryz.laysM173 n h0 h1 w htab
def Tryz.laysC174_ren : Go.Shelf.Ren := ⟨fun | 174 => 79 | 247 => 101 | 245 => 102 | 287 => 103 | 279 => 119 | 280 => 120 | 281 => 121 | 282 => 122 | 321 => 123 | 322 => 124 | 316 => 138 | 171 => 140 | 205 => 139 | 243 => 151 | 246 => 107 | 283 => 125 | 284 => 126 | 285 => 127 | 286 => 128 | 129 => 142 | 317 => 141 | 318 => 143 | 319 => 144 | 320 => 145 | 337 => 152 | 338 => 153 | n => n, fun | 9 => 9 | 3 => 3 | 2 => 2 | 75 => 90 | 85 => 127 | 4 => 4 | 167 => 159 | 5 => 5 | 53 => 111 | 175 => 129 | 46 => 141 | 168 => 160 | 37 => 22 | 0 => 0 | 210 => 183 | 21 => 21 | 127 => 137 | 145 => 196 | 143 => 194 | 171 => 166 | 173 => 169 | 212 => 186 | 51 => 178 | 20 => 20 | 213 => 187 | 232 => 202 | 233 => 203 | 80 => 96 | n => n, fun | 15 => 1 | 16 => 2 | 17 => 3 | 18 => 6 | 19 => 7 | n => n⟩
theorem Tryz.laysC174 : Go.Proofs.LaysC.n174 Tryz.prog Tryz.laysC174_ren := {
  mixed := by kernel_rfl
  f129 := Tryz.func142.trans (congrArg some (by kernel_rfl))
  f171 := Tryz.func140.trans (congrArg some (by kernel_rfl))
  f174 := Tryz.func79.trans (congrArg some (by kernel_rfl))
  f205 := Tryz.func139.trans (congrArg some (by kernel_rfl))
  f243 := Tryz.func151.trans (congrArg some (by kernel_rfl))
  f245 := Tryz.func102.trans (congrArg some (by kernel_rfl))
  f246 := Tryz.func107.trans (congrArg some (by kernel_rfl))
  f247 := Tryz.func101.trans (congrArg some (by kernel_rfl))
  f279 := Tryz.func119.trans (congrArg some (by kernel_rfl))
  f280 := Tryz.func120.trans (congrArg some (by kernel_rfl))
  f281 := Tryz.func121.trans (congrArg some (by kernel_rfl))
  f282 := Tryz.func122.trans (congrArg some (by kernel_rfl))
  f283 := Tryz.func125.trans (congrArg some (by kernel_rfl))
  f284 := Tryz.func126.trans (congrArg some (by kernel_rfl))
  f285 := Tryz.func127.trans (congrArg some (by kernel_rfl))
  f286 := Tryz.func128.trans (congrArg some (by kernel_rfl))
  f287 := Tryz.func103.trans (congrArg some (by kernel_rfl))
  f316 := Tryz.func138.trans (congrArg some (by kernel_rfl))
  f317 := Tryz.func141.trans (congrArg some (by kernel_rfl))
  f318 := Tryz.func143.trans (congrArg some (by kernel_rfl))
  f319 := Tryz.func144.trans (congrArg some (by kernel_rfl))
  f320 := Tryz.func145.trans (congrArg some (by kernel_rfl))
  f321 := Tryz.func123.trans (congrArg some (by kernel_rfl))
  f322 := Tryz.func124.trans (congrArg some (by kernel_rfl))
  f337 := Tryz.func152.trans (congrArg some (by kernel_rfl))
  f338 := Tryz.func153.trans (congrArg some (by kernel_rfl))
  t0 := Tryz.underlying0
  a0 := Tryz.isAgg0
  z0 := Tryz.sizeOf0
  v0 := Tryz.zeroValue0
  t2 := Tryz.underlying2
  a2 := Tryz.isAgg2
  z2 := Tryz.sizeOf2
  v2 := Tryz.zeroValue2
  t3 := Tryz.underlying3
  a3 := Tryz.isAgg3
  z3 := Tryz.sizeOf3
  v3 := Tryz.zeroValue3
  t4 := Tryz.underlying4
  a4 := Tryz.isAgg4
  z4 := Tryz.sizeOf4
  v4 := Tryz.zeroValue4
  t5 := Tryz.underlying5
  a5 := Tryz.isAgg5
  z5 := Tryz.sizeOf5
  v5 := Tryz.zeroValue5
  t9 := Tryz.underlying9
  a9 := Tryz.isAgg9
  z9 := Tryz.sizeOf9
  v9 := Tryz.zeroValue9
  t20 := Tryz.underlying20
  a20 := Tryz.isAgg20
  z20 := Tryz.sizeOf20
  v20 := Tryz.zeroValue20
  t21 := Tryz.underlying21
  a21 := Tryz.isAgg21
  z21 := Tryz.sizeOf21
  v21 := Tryz.zeroValue21
  t37 := Tryz.underlying22
  a37 := Tryz.isAgg22
  z37 := Tryz.sizeOf22
  v37 := Tryz.zeroValue22
  t46 := Tryz.underlying141
  a46 := Tryz.isAgg141
  z46 := Tryz.sizeOf141
  v46 := Tryz.zeroValue141
  t51 := Tryz.underlying178
  a51 := Tryz.isAgg178
  z51 := Tryz.sizeOf178
  v51 := Tryz.zeroValue178
  t53 := Tryz.underlying111
  a53 := Tryz.isAgg111
  z53 := Tryz.sizeOf111
  v53 := Tryz.zeroValue111
  t75 := Tryz.underlying90
  a75 := Tryz.isAgg90
  z75 := Tryz.sizeOf90
  v75 := Tryz.zeroValue90
  t85 := Tryz.underlying127
  a85 := Tryz.isAgg127
  z85 := Tryz.sizeOf127
  v85 := Tryz.zeroValue127
  t127 := Tryz.underlying137
  a127 := Tryz.isAgg137
  z127 := Tryz.sizeOf137
  v127 := Tryz.zeroValue137
  t143 := Tryz.underlying194
  a143 := Tryz.isAgg194
  z143 := Tryz.sizeOf194
  v143 := Tryz.zeroValue194
  t145 := Tryz.underlying196
  a145 := Tryz.isAgg196
  z145 := Tryz.sizeOf196
  v145 := Tryz.zeroValue196
  t167 := Tryz.underlying159
  a167 := Tryz.isAgg159
  z167 := Tryz.sizeOf159
  v167 := Tryz.zeroValue159
  t168 := Tryz.underlying160
  a168 := Tryz.isAgg160
  z168 := Tryz.sizeOf160
  v168 := Tryz.zeroValue160
  t171 := Tryz.underlying166
  a171 := Tryz.isAgg166
  z171 := Tryz.sizeOf166
  v171 := Tryz.zeroValue166
  t173 := Tryz.underlying169
  a173 := Tryz.isAgg169
  z173 := Tryz.sizeOf169
  v173 := Tryz.zeroValue169
  t175 := Tryz.underlying129
  a175 := Tryz.isAgg129
  z175 := Tryz.sizeOf129
  v175 := Tryz.zeroValue129
  t210 := Tryz.underlying183
  a210 := Tryz.isAgg183
  z210 := Tryz.sizeOf183
  v210 := Tryz.zeroValue183
  t212 := Tryz.underlying186
  a212 := Tryz.isAgg186
  z212 := Tryz.sizeOf186
  v212 := Tryz.zeroValue186
  t213 := Tryz.underlying187
  a213 := Tryz.isAgg187
  z213 := Tryz.sizeOf187
  t232 := Tryz.underlying202
  a232 := Tryz.isAgg202
  z232 := Tryz.sizeOf202
  v232 := Tryz.zeroValue202
  t233 := Tryz.underlying203
  a233 := Tryz.isAgg203
  z233 := Tryz.sizeOf203
  v233 := Tryz.zeroValue203
  g15 := by kernel_rfl
  g16 := by kernel_rfl
  g17 := by kernel_rfl
  g18 := by kernel_rfl
  g19 := by kernel_rfl
  t80 := Tryz.underlying96
  a80 := Tryz.isAgg96
  z80 := Tryz.sizeOf96
  v80 := Tryz.zeroValue96
  i0 := by kernel_rfl
  i2 := by kernel_rfl
  i3 := by kernel_rfl
  i4 := by kernel_rfl
  i5 := by kernel_rfl
  i9 := by kernel_rfl
  i20 := by kernel_rfl
  i21 := by kernel_rfl
  i37 := by kernel_rfl
  i46 := by kernel_rfl
  i51 := by kernel_rfl
  i53 := by kernel_rfl
  i75 := by kernel_rfl
  i80 := by kernel_rfl
  i85 := by kernel_rfl
  i127 := by kernel_rfl
  i143 := by kernel_rfl
  i145 := by kernel_rfl
  i167 := by kernel_rfl
  i168 := by kernel_rfl
  i171 := by kernel_rfl
  i173 := by kernel_rfl
  i175 := by kernel_rfl
  i210 := by kernel_rfl
  i212 := by kernel_rfl
  i232 := by kernel_rfl
  i233 := by kernel_rfl
  m15 := by kernel_rfl
  m16 := by kernel_rfl
  m17 := by kernel_rfl
  m18 := by kernel_rfl
  m19 := by kernel_rfl
  c0 := by kernel_rfl
  c2 := by kernel_rfl
  c3 := by kernel_rfl
  c4 := by kernel_rfl
  c5 := by kernel_rfl
  c9 := by kernel_rfl
  c20 := by kernel_rfl
  c21 := by kernel_rfl
  c37 := by kernel_rfl
  c46 := by kernel_rfl
  c51 := by kernel_rfl
  c53 := by kernel_rfl
  c75 := by kernel_rfl
  c80 := by kernel_rfl
  c85 := by kernel_rfl
  c127 := by kernel_rfl
  c143 := by kernel_rfl
  c145 := by kernel_rfl
  c167 := by kernel_rfl
  c168 := by kernel_rfl
  c171 := by kernel_rfl
  c173 := by kernel_rfl
  c175 := by kernel_rfl
  c210 := by kernel_rfl
  c212 := by kernel_rfl
  c213 := by kernel_rfl
  c232 := by kernel_rfl
  c233 := by kernel_rfl }
open Go.RowKit in
/-- strconv.ParseInt(s, 10, 64), AT EVERY STRING THAT SPELLS AN int64 ('Lib.parseIntB 64 s.data.toList = .ok v'): v, AND NO ERROR. (LAID: no walk: one application.) -/
theorem Tryz.strconv_ParseInt_10_at64_ok (s : ByteArray) (hmax : s.size ≤ 9223372036854775806) (v : Int) (h : Lib.parseIntB 64 s.data.toList = .ok v) (w : World) :
    Calls Tryz.prog 79 #[.string s, .int .i64 10, .int .i64 64] w fun e w' => e = .returned (.tuple #[.int .i64 v, .nilIface]) ∧ (w' = w ∨ ∃ t, w' = Lib.bytesWorld w 5 t) := Any.strconv_ParseInt_10_at64_ok Tryz.laysC174 s hmax v h w
open Go.RowKit in
/-- strconv.ParseInt(s, 10, 64), AT EVERY STRING THAT IS NO DECIMAL NUMERAL: 0, AND AN ERROR THAT IS NOT nil: a *NumError in a new block N: {Func: "ParseInt", Num: s's bytes, Err: what the variable ErrSyntax holds}. Of what was there nothing has turned. (LAID: no walk: one application.) -/
theorem Tryz.strconv_ParseInt_10_at64_syntax (s : ByteArray) (hlim : s.size ≤ 281474976710656) (h : Lib.parseIntB 64 s.data.toList = Lib.parseIntB 64 []) (ev : Value) (w : World) (hv : w.cell? ⟨1, 0, none⟩ = some ev) (hev : ev = .nilIface ∨ ∃ te pe, ev = .iface te pe) :
    Calls Tryz.prog 79 #[.string s, .int .i64 10, .int .i64 64] w fun e w' => ∃ N, e = .returned (.tuple #[.int .i64 (0), .iface 160 (.pointer (some ⟨N, 0, none⟩))]) ∧ w.heap.size ≤ N ∧ w'.heap[N]? = some (.cells #[.string ⟨#[80, 97, 114, 115, 101, 73, 110, 116]⟩, .string s, ev] 183 (0, 0)) ∧ Below w.heap.size w w' := Any.strconv_ParseInt_10_at64_syntax Tryz.laysC174 s hlim h ev w hv hev
open Go.RowKit in
/-- strconv.ParseInt(s, 10, 64), AT EVERY NUMERAL THAT NO int64 HOLDS: THE GREATEST OR THE LEAST int64, BY THE SIGN ('Lib.intSat 64'), AND AN ERROR THAT IS NOT nil: a *NumError in a new block N: {Func: "ParseInt", Num: s's bytes, Err: what the variable ErrRange holds}. Of what was there nothing has turned. (LAID: no walk: one application.) -/
theorem Tryz.strconv_ParseInt_10_at64_range (s : ByteArray) (hlim : s.size ≤ 281474976710656) (h : Lib.parseIntB 64 s.data.toList = .range) (ev : Value) (w : World) (hv : w.cell? ⟨2, 0, none⟩ = some ev) (hev : ev = .nilIface ∨ ∃ te pe, ev = .iface te pe) :
    Calls Tryz.prog 79 #[.string s, .int .i64 10, .int .i64 64] w fun e w' => ∃ N, e = .returned (.tuple #[.int .i64 (Lib.intSat 64 s.data.toList), .iface 160 (.pointer (some ⟨N, 0, none⟩))]) ∧ w.heap.size ≤ N ∧ w'.heap[N]? = some (.cells #[.string ⟨#[80, 97, 114, 115, 101, 73, 110, 116]⟩, .string s, ev] 183 (0, 0)) ∧ Below w.heap.size w w' := Any.strconv_ParseInt_10_at64_range Tryz.laysC174 s hlim h ev w hv hev
def Tryz.laysPu14_ren : Go.Shelf.Ren := ⟨fun | 14 => 80 | 16 => 103 | 17 => 102 | 19 => 123 | 20 => 124 | 21 => 119 | 22 => 120 | 23 => 121 | 24 => 122 | 25 => 138 | 27 => 140 | 26 => 139 | 28 => 151 | 29 => 107 | 30 => 125 | 31 => 126 | 32 => 127 | 33 => 128 | 35 => 142 | 34 => 141 | 36 => 143 | 37 => 144 | 38 => 145 | 39 => 152 | 40 => 153 | n => n, fun | 9 => 9 | 3 => 3 | 22 => 111 | 24 => 90 | 25 => 129 | 4 => 4 | 34 => 159 | 5 => 5 | 36 => 141 | 37 => 22 | 0 => 0 | 39 => 160 | 21 => 21 | 44 => 183 | 47 => 137 | 50 => 196 | 48 => 194 | 2 => 2 | 52 => 166 | 55 => 169 | 59 => 186 | 60 => 178 | 20 => 20 | 61 => 187 | 65 => 202 | 66 => 203 | 67 => 96 | n => n, fun | 0 => 1 | 1 => 2 | 2 => 3 | 3 => 6 | 4 => 7 | n => n⟩
theorem Tryz.laysPu14 : Go.Proofs.LaysPu.n14 Tryz.prog Tryz.laysPu14_ren := {
  mixed := by kernel_rfl
  f14 := Tryz.func80.trans (congrArg some (by kernel_rfl))
  f16 := Tryz.func103.trans (congrArg some (by kernel_rfl))
  f17 := Tryz.func102.trans (congrArg some (by kernel_rfl))
  f19 := Tryz.func123.trans (congrArg some (by kernel_rfl))
  f20 := Tryz.func124.trans (congrArg some (by kernel_rfl))
  f21 := Tryz.func119.trans (congrArg some (by kernel_rfl))
  f22 := Tryz.func120.trans (congrArg some (by kernel_rfl))
  f23 := Tryz.func121.trans (congrArg some (by kernel_rfl))
  f24 := Tryz.func122.trans (congrArg some (by kernel_rfl))
  f25 := Tryz.func138.trans (congrArg some (by kernel_rfl))
  f26 := Tryz.func139.trans (congrArg some (by kernel_rfl))
  f27 := Tryz.func140.trans (congrArg some (by kernel_rfl))
  f28 := Tryz.func151.trans (congrArg some (by kernel_rfl))
  f29 := Tryz.func107.trans (congrArg some (by kernel_rfl))
  f30 := Tryz.func125.trans (congrArg some (by kernel_rfl))
  f31 := Tryz.func126.trans (congrArg some (by kernel_rfl))
  f32 := Tryz.func127.trans (congrArg some (by kernel_rfl))
  f33 := Tryz.func128.trans (congrArg some (by kernel_rfl))
  f34 := Tryz.func141.trans (congrArg some (by kernel_rfl))
  f35 := Tryz.func142.trans (congrArg some (by kernel_rfl))
  f36 := Tryz.func143.trans (congrArg some (by kernel_rfl))
  f37 := Tryz.func144.trans (congrArg some (by kernel_rfl))
  f38 := Tryz.func145.trans (congrArg some (by kernel_rfl))
  f39 := Tryz.func152.trans (congrArg some (by kernel_rfl))
  f40 := Tryz.func153.trans (congrArg some (by kernel_rfl))
  t0 := Tryz.underlying0
  a0 := Tryz.isAgg0
  z0 := Tryz.sizeOf0
  v0 := Tryz.zeroValue0
  i0 := by kernel_rfl
  t2 := Tryz.underlying2
  a2 := Tryz.isAgg2
  z2 := Tryz.sizeOf2
  v2 := Tryz.zeroValue2
  i2 := by kernel_rfl
  t3 := Tryz.underlying3
  a3 := Tryz.isAgg3
  z3 := Tryz.sizeOf3
  v3 := Tryz.zeroValue3
  i3 := by kernel_rfl
  t4 := Tryz.underlying4
  a4 := Tryz.isAgg4
  z4 := Tryz.sizeOf4
  v4 := Tryz.zeroValue4
  i4 := by kernel_rfl
  t5 := Tryz.underlying5
  a5 := Tryz.isAgg5
  z5 := Tryz.sizeOf5
  v5 := Tryz.zeroValue5
  i5 := by kernel_rfl
  t9 := Tryz.underlying9
  a9 := Tryz.isAgg9
  z9 := Tryz.sizeOf9
  v9 := Tryz.zeroValue9
  i9 := by kernel_rfl
  t20 := Tryz.underlying20
  a20 := Tryz.isAgg20
  z20 := Tryz.sizeOf20
  v20 := Tryz.zeroValue20
  i20 := by kernel_rfl
  t21 := Tryz.underlying21
  a21 := Tryz.isAgg21
  z21 := Tryz.sizeOf21
  v21 := Tryz.zeroValue21
  i21 := by kernel_rfl
  t22 := Tryz.underlying111
  a22 := Tryz.isAgg111
  z22 := Tryz.sizeOf111
  v22 := Tryz.zeroValue111
  i22 := by kernel_rfl
  t24 := Tryz.underlying90
  a24 := Tryz.isAgg90
  z24 := Tryz.sizeOf90
  v24 := Tryz.zeroValue90
  i24 := by kernel_rfl
  t25 := Tryz.underlying129
  a25 := Tryz.isAgg129
  z25 := Tryz.sizeOf129
  v25 := Tryz.zeroValue129
  i25 := by kernel_rfl
  t34 := Tryz.underlying159
  a34 := Tryz.isAgg159
  z34 := Tryz.sizeOf159
  v34 := Tryz.zeroValue159
  i34 := by kernel_rfl
  c34 := by kernel_rfl
  t36 := Tryz.underlying141
  a36 := Tryz.isAgg141
  z36 := Tryz.sizeOf141
  v36 := Tryz.zeroValue141
  i36 := by kernel_rfl
  t37 := Tryz.underlying22
  a37 := Tryz.isAgg22
  z37 := Tryz.sizeOf22
  v37 := Tryz.zeroValue22
  i37 := by kernel_rfl
  t39 := Tryz.underlying160
  a39 := Tryz.isAgg160
  z39 := Tryz.sizeOf160
  v39 := Tryz.zeroValue160
  i39 := by kernel_rfl
  t44 := Tryz.underlying183
  a44 := Tryz.isAgg183
  z44 := Tryz.sizeOf183
  v44 := Tryz.zeroValue183
  i44 := by kernel_rfl
  t47 := Tryz.underlying137
  a47 := Tryz.isAgg137
  z47 := Tryz.sizeOf137
  v47 := Tryz.zeroValue137
  i47 := by kernel_rfl
  t48 := Tryz.underlying194
  a48 := Tryz.isAgg194
  z48 := Tryz.sizeOf194
  v48 := Tryz.zeroValue194
  i48 := by kernel_rfl
  t50 := Tryz.underlying196
  a50 := Tryz.isAgg196
  z50 := Tryz.sizeOf196
  v50 := Tryz.zeroValue196
  i50 := by kernel_rfl
  t52 := Tryz.underlying166
  a52 := Tryz.isAgg166
  z52 := Tryz.sizeOf166
  v52 := Tryz.zeroValue166
  i52 := by kernel_rfl
  t55 := Tryz.underlying169
  a55 := Tryz.isAgg169
  z55 := Tryz.sizeOf169
  v55 := Tryz.zeroValue169
  i55 := by kernel_rfl
  t59 := Tryz.underlying186
  a59 := Tryz.isAgg186
  z59 := Tryz.sizeOf186
  v59 := Tryz.zeroValue186
  i59 := by kernel_rfl
  t60 := Tryz.underlying178
  a60 := Tryz.isAgg178
  z60 := Tryz.sizeOf178
  v60 := Tryz.zeroValue178
  i60 := by kernel_rfl
  t61 := Tryz.underlying187
  a61 := Tryz.isAgg187
  z61 := Tryz.sizeOf187
  t65 := Tryz.underlying202
  a65 := Tryz.isAgg202
  z65 := Tryz.sizeOf202
  v65 := Tryz.zeroValue202
  i65 := by kernel_rfl
  t66 := Tryz.underlying203
  a66 := Tryz.isAgg203
  z66 := Tryz.sizeOf203
  v66 := Tryz.zeroValue203
  i66 := by kernel_rfl
  t67 := Tryz.underlying96
  a67 := Tryz.isAgg96
  z67 := Tryz.sizeOf96
  v67 := Tryz.zeroValue96
  i67 := by kernel_rfl
  g0 := by kernel_rfl
  m0 := by kernel_rfl
  g1 := by kernel_rfl
  m1 := by kernel_rfl
  g2 := by kernel_rfl
  m2 := by kernel_rfl
  g3 := by kernel_rfl
  m3 := by kernel_rfl
  g4 := by kernel_rfl
  m4 := by kernel_rfl }
def Tryz.lays145_ren : Go.Shelf.Ren := ⟨fun | 145 => 38 | 220 => 78 | 219 => 100 | 217 => 115 | 225 => 116 | 224 => 117 | 267 => 118 | 266 => 136 | 314 => 137 | n => n, fun | 9 => 9 | 4 => 4 | 59 => 75 | 3 => 3 | 5 => 5 | 46 => 141 | 146 => 179 | 51 => 178 | n => n, fun | 1 => 0 | n => n⟩
theorem Tryz.lays145 : Go.Proofs.Lays.n145 Tryz.prog Tryz.lays145_ren := {
  mixed := by kernel_rfl
  f145 := Tryz.func38.trans (congrArg some (by kernel_rfl))
  f217 := Tryz.func115.trans (congrArg some (by kernel_rfl))
  f219 := Tryz.func100.trans (congrArg some (by kernel_rfl))
  f220 := Tryz.func78.trans (congrArg some (by kernel_rfl))
  f224 := Tryz.func117.trans (congrArg some (by kernel_rfl))
  f225 := Tryz.func116.trans (congrArg some (by kernel_rfl))
  f266 := Tryz.func136.trans (congrArg some (by kernel_rfl))
  f267 := Tryz.func118.trans (congrArg some (by kernel_rfl))
  f314 := Tryz.func137.trans (congrArg some (by kernel_rfl))
  t3 := Tryz.underlying3
  a3 := Tryz.isAgg3
  z3 := Tryz.sizeOf3
  v3 := Tryz.zeroValue3
  t4 := Tryz.underlying4
  a4 := Tryz.isAgg4
  z4 := Tryz.sizeOf4
  v4 := Tryz.zeroValue4
  t5 := Tryz.underlying5
  a5 := Tryz.isAgg5
  z5 := Tryz.sizeOf5
  v5 := Tryz.zeroValue5
  t9 := Tryz.underlying9
  a9 := Tryz.isAgg9
  z9 := Tryz.sizeOf9
  v9 := Tryz.zeroValue9
  t46 := Tryz.underlying141
  a46 := Tryz.isAgg141
  z46 := Tryz.sizeOf141
  v46 := Tryz.zeroValue141
  t51 := Tryz.underlying178
  a51 := Tryz.isAgg178
  z51 := Tryz.sizeOf178
  v51 := Tryz.zeroValue178
  t59 := Tryz.underlying75
  a59 := Tryz.isAgg75
  z59 := Tryz.sizeOf75
  v59 := Tryz.zeroValue75
  t146 := Tryz.underlying179
  a146 := Tryz.isAgg179
  z146 := Tryz.sizeOf179
  v146 := Tryz.zeroValue179
  g1 := by kernel_rfl }
open Go.RowKit Go.Lib in
/-- strings.Cut: "Cut slices s around the first instance of sep, returning the text before and after sep. The found result reports whether sep appears in s. If sep does not appear in s, cut returns s, "", false.": IT RETURNS 'Lib.cut s sep'; the world is as it was but for the count of draws. (LAID: no walk: one application.) -/
theorem Tryz.strings_Cut (s sep : ByteArray) (m : Int) (w : World) (hs : s.size < 4294967281) (hm : w.cell? ⟨0, 0, none⟩ = some (.int .i64 m)) :
    Calls Tryz.prog 38 #[.string s, .string sep] w fun e w' => e = .returned (.tuple #[.string ⟨(Lib.cut s.data.toList sep.data.toList).1.toArray⟩, .string ⟨(Lib.cut s.data.toList sep.data.toList).2.1.toArray⟩, .bool (Lib.cut s.data.toList sep.data.toList).2.2]) ∧ ∃ n, w' = w.drewN n := Any.strings_Cut Tryz.lays145 s sep m w hs hm
def Tryz.lays146_ren : Go.Shelf.Ren := ⟨fun | 146 => 77 | 221 => 99 | 268 => 112 | 138 => 113 | 143 => 114 | 195 => 133 | 197 => 134 | 218 => 135 | 219 => 100 | 260 => 150 | 217 => 115 | 225 => 116 | 224 => 117 | 267 => 118 | 266 => 136 | 314 => 137 | n => n, fun | 9 => 9 | 31 => 72 | 3 => 3 | 4 => 4 | 0 => 0 | 105 => 176 | 21 => 21 | 5 => 5 | 46 => 141 | 119 => 198 | 139 => 201 | 138 => 200 | 146 => 179 | 51 => 178 | n => n, fun | 1 => 0 | 3 => 4 | 4 => 5 | n => n⟩
theorem Tryz.lays146 : Go.Proofs.Lays.n146 Tryz.prog Tryz.lays146_ren := {
  mixed := by kernel_rfl
  f138 := Tryz.func113.trans (congrArg some (by kernel_rfl))
  f143 := Tryz.func114.trans (congrArg some (by kernel_rfl))
  f146 := Tryz.func77.trans (congrArg some (by kernel_rfl))
  f195 := Tryz.func133.trans (congrArg some (by kernel_rfl))
  f197 := Tryz.func134.trans (congrArg some (by kernel_rfl))
  f217 := Tryz.func115.trans (congrArg some (by kernel_rfl))
  f218 := Tryz.func135.trans (congrArg some (by kernel_rfl))
  f219 := Tryz.func100.trans (congrArg some (by kernel_rfl))
  f221 := Tryz.func99.trans (congrArg some (by kernel_rfl))
  f224 := Tryz.func117.trans (congrArg some (by kernel_rfl))
  f225 := Tryz.func116.trans (congrArg some (by kernel_rfl))
  f260 := Tryz.func150.trans (congrArg some (by kernel_rfl))
  f266 := Tryz.func136.trans (congrArg some (by kernel_rfl))
  f267 := Tryz.func118.trans (congrArg some (by kernel_rfl))
  f268 := Tryz.func112.trans (congrArg some (by kernel_rfl))
  f314 := Tryz.func137.trans (congrArg some (by kernel_rfl))
  t0 := Tryz.underlying0
  a0 := Tryz.isAgg0
  z0 := Tryz.sizeOf0
  v0 := Tryz.zeroValue0
  t3 := Tryz.underlying3
  a3 := Tryz.isAgg3
  z3 := Tryz.sizeOf3
  v3 := Tryz.zeroValue3
  t4 := Tryz.underlying4
  a4 := Tryz.isAgg4
  z4 := Tryz.sizeOf4
  v4 := Tryz.zeroValue4
  t5 := Tryz.underlying5
  a5 := Tryz.isAgg5
  z5 := Tryz.sizeOf5
  v5 := Tryz.zeroValue5
  t9 := Tryz.underlying9
  a9 := Tryz.isAgg9
  z9 := Tryz.sizeOf9
  v9 := Tryz.zeroValue9
  t21 := Tryz.underlying21
  a21 := Tryz.isAgg21
  z21 := Tryz.sizeOf21
  v21 := Tryz.zeroValue21
  t31 := Tryz.underlying72
  a31 := Tryz.isAgg72
  z31 := Tryz.sizeOf72
  v31 := Tryz.zeroValue72
  t46 := Tryz.underlying141
  a46 := Tryz.isAgg141
  z46 := Tryz.sizeOf141
  v46 := Tryz.zeroValue141
  t51 := Tryz.underlying178
  a51 := Tryz.isAgg178
  z51 := Tryz.sizeOf178
  v51 := Tryz.zeroValue178
  t105 := Tryz.underlying176
  a105 := Tryz.isAgg176
  z105 := Tryz.sizeOf176
  v105 := Tryz.zeroValue176
  t119 := Tryz.underlying198
  a119 := Tryz.isAgg198
  z119 := Tryz.sizeOf198
  t138 := Tryz.underlying200
  a138 := Tryz.isAgg200
  z138 := Tryz.sizeOf200
  v138 := Tryz.zeroValue200
  t139 := Tryz.underlying201
  a139 := Tryz.isAgg201
  z139 := Tryz.sizeOf201
  v139 := Tryz.zeroValue201
  t146 := Tryz.underlying179
  a146 := Tryz.isAgg179
  z146 := Tryz.sizeOf179
  v146 := Tryz.zeroValue179
  g1 := by kernel_rfl
  g3 := by kernel_rfl
  g4 := by kernel_rfl }
open Go.RowKit Go.Lib in
/-- strings.Split. (LAID: no walk: one application.) -/
theorem Tryz.strings_Split (s sep : ByteArray) (m : Int) (w : World) (hs : s.size < 4294967281) (hm : w.cell? ⟨0, 0, none⟩ = some (.int .i64 m)) (h1 : 1 ≤ sep.size) :
    Calls Tryz.prog 77 #[.string s, .string sep] w fun e w' =>
      e = .returned (.slice (some ⟨w.heap.size, 0, none⟩) (Lib.countB s sep + 1) (Lib.countB s sep + 1)) ∧ w' = w.alloc (.cells ((Lib.splitB sep 0 (Lib.countB s sep) s).map Value.string).toArray 9) := Any.strings_Split Tryz.lays146 (by kernel_rfl) s sep m w hs hm h1
def Tryz.lays105_ren : Go.Shelf.Ren := ⟨fun | 105 => 108 | 212 => 129 | 99 => 130 | 165 => 109 | 166 => 42 | 170 => 131 | 169 => 46 | 263 => 146 | 264 => 147 | 206 => 148 | 240 => 83 | 241 => 132 | 276 => 106 | 277 => 149 | n => n, fun | 9 => 9 | 3 => 3 | 4 => 4 | 20 => 20 | 0 => 0 | 46 => 141 | 109 => 171 | 5 => 5 | 72 => 88 | 76 => 91 | 51 => 178 | 146 => 179 | 53 => 111 | 148 => 191 | 70 => 86 | 37 => 22 | 75 => 90 | 127 => 137 | 164 => 151 | 80 => 96 | n => n, fun | n => n⟩
theorem Tryz.lays105 : Go.Proofs.Lays.n105 Tryz.prog Tryz.lays105_ren := {
  mixed := by kernel_rfl
  f99 := Tryz.func130.trans (congrArg some (by kernel_rfl))
  f105 := Tryz.func108.trans (congrArg some (by kernel_rfl))
  f165 := Tryz.func109.trans (congrArg some (by kernel_rfl))
  f166 := Tryz.func42.trans (congrArg some (by kernel_rfl))
  f169 := Tryz.func46.trans (congrArg some (by kernel_rfl))
  f170 := Tryz.func131.trans (congrArg some (by kernel_rfl))
  f206 := Tryz.func148.trans (congrArg some (by kernel_rfl))
  f212 := Tryz.func129.trans (congrArg some (by kernel_rfl))
  f240 := Tryz.func83.trans (congrArg some (by kernel_rfl))
  f241 := Tryz.func132.trans (congrArg some (by kernel_rfl))
  f263 := Tryz.func146.trans (congrArg some (by kernel_rfl))
  f264 := Tryz.func147.trans (congrArg some (by kernel_rfl))
  f276 := Tryz.func106.trans (congrArg some (by kernel_rfl))
  f277 := Tryz.func149.trans (congrArg some (by kernel_rfl))
  t0 := Tryz.underlying0
  a0 := Tryz.isAgg0
  z0 := Tryz.sizeOf0
  v0 := Tryz.zeroValue0
  t3 := Tryz.underlying3
  a3 := Tryz.isAgg3
  z3 := Tryz.sizeOf3
  v3 := Tryz.zeroValue3
  t4 := Tryz.underlying4
  a4 := Tryz.isAgg4
  z4 := Tryz.sizeOf4
  v4 := Tryz.zeroValue4
  t5 := Tryz.underlying5
  a5 := Tryz.isAgg5
  z5 := Tryz.sizeOf5
  v5 := Tryz.zeroValue5
  t9 := Tryz.underlying9
  a9 := Tryz.isAgg9
  z9 := Tryz.sizeOf9
  v9 := Tryz.zeroValue9
  t20 := Tryz.underlying20
  a20 := Tryz.isAgg20
  z20 := Tryz.sizeOf20
  v20 := Tryz.zeroValue20
  t37 := Tryz.underlying22
  a37 := Tryz.isAgg22
  z37 := Tryz.sizeOf22
  v37 := Tryz.zeroValue22
  t46 := Tryz.underlying141
  a46 := Tryz.isAgg141
  z46 := Tryz.sizeOf141
  v46 := Tryz.zeroValue141
  t51 := Tryz.underlying178
  a51 := Tryz.isAgg178
  z51 := Tryz.sizeOf178
  v51 := Tryz.zeroValue178
  t53 := Tryz.underlying111
  a53 := Tryz.isAgg111
  z53 := Tryz.sizeOf111
  v53 := Tryz.zeroValue111
  t70 := Tryz.underlying86
  a70 := Tryz.isAgg86
  z70 := Tryz.sizeOf86
  v70 := Tryz.zeroValue86
  t72 := Tryz.underlying88
  a72 := Tryz.isAgg88
  z72 := Tryz.sizeOf88
  v72 := Tryz.zeroValue88
  t75 := Tryz.underlying90
  a75 := Tryz.isAgg90
  z75 := Tryz.sizeOf90
  v75 := Tryz.zeroValue90
  t76 := Tryz.underlying91
  a76 := Tryz.isAgg91
  z76 := Tryz.sizeOf91
  v76 := Tryz.zeroValue91
  t109 := Tryz.underlying171
  a109 := Tryz.isAgg171
  z109 := Tryz.sizeOf171
  v109 := Tryz.zeroValue171
  t127 := Tryz.underlying137
  a127 := Tryz.isAgg137
  z127 := Tryz.sizeOf137
  v127 := Tryz.zeroValue137
  t146 := Tryz.underlying179
  a146 := Tryz.isAgg179
  z146 := Tryz.sizeOf179
  v146 := Tryz.zeroValue179
  t148 := Tryz.underlying191
  a148 := Tryz.isAgg191
  z148 := Tryz.sizeOf191
  v148 := Tryz.zeroValue191
  t164 := Tryz.underlying151
  a164 := Tryz.isAgg151
  z164 := Tryz.sizeOf151
  v164 := Tryz.zeroValue151 }
open Go.RowKit Go.Lib in
theorem Tryz.strings_Repeat_zero (s : ByteArray) (w : World) :
    Calls Tryz.prog 108 #[.string s, .int .i64 0] w fun e w' => e = .returned (.string ⟨#[]⟩) ∧ w' = w := Any.strings_Repeat_zero Tryz.lays105 s w
open Go.RowKit Go.Lib in
theorem Tryz.strings_Repeat_one (s : ByteArray) (w : World) :
    Calls Tryz.prog 108 #[.string s, .int .i64 1] w fun e w' => e = .returned (.string s) ∧ w' = w := Any.strings_Repeat_one Tryz.lays105 s w
end Go.Proofs

/- What these functions of the program hand back, each proved by walking its operations. -/
set_option linter.unusedVariables false
set_option linter.unusedSimpArgs false
set_option maxRecDepth 4000
namespace Go.Proofs.YtddflaaccmjoeaaGreatDoor
open Go Go.Sx Go.RowKit Go.W Go.Proofs
attribute [local irreducible] Ex ExL ExD Op1 Free RetQ MutQ Reads CellO SegO LoadsAs
theorem e_77 : Enters Tryz.prog 77 := Enters.of Tryz.func77 rfl
theorem c_Split (t : List UInt8) (c : UInt8) (hl : t.length ≤ 1048576) : Ret Tryz.prog 77 [sv t, sv [c]] (fun w => RdO 0 1 2 w) (fun x : Nat => .slice (some ⟨x, 0, none⟩) (splitA c [] t).length (splitA c [] t).length) (fun x => [.row (.slice (some ⟨x, 0, none⟩) (splitA c [] t).length (splitA c [] t).length) 9 1 (splitA c [] t).length ((splitA c [] t).flatMap eSt)]) (fun _ => True) := by
  refine ⟨e_77, fun w hr => ?_⟩
  obtain ⟨m, hm⟩ := hr.max
  have hz : (mkB t).size = t.length := rfl
  refine (Go.Proofs.Tryz.strings_Split (mkB t) (mkB [c]) m w (by omega) hm (by show 1 ≤ 1; decide)).mono ?_
  rintro e w' ⟨rfl, rfl⟩
  obtain ⟨h1, h2⟩ := split_row (T := 9) (w := w) c t (by omega)
  exact ⟨w.heap.size, trivial, congrArg _ h1, below_alloc _ _, by simpa using h2, by simp⟩
theorem e_38 : Enters Tryz.prog 38 := Enters.of Tryz.func38 rfl
theorem c_Cut (t : List UInt8) (c : UInt8) (hl : t.length ≤ 1048576) : Ret Tryz.prog 38 [sv t, sv [c]] (fun w => RdO 0 1 2 w) (fun _ : Unit => .tuple #[sv (Lib.cut t [c]).1, sv (Lib.cut t [c]).2.1, .bool (Lib.cut t [c]).2.2]) (fun _ => []) (fun _ => True) := by
  refine ⟨e_38, fun w hr => ?_⟩
  obtain ⟨m, hm⟩ := hr.max
  have hz : (mkB t).size = t.length := rfl
  refine (Go.Proofs.Tryz.strings_Cut (mkB t) (mkB [c]) m w (by omega) hm).mono ?_
  rintro e w' ⟨rfl, n, rfl⟩
  exact ⟨(), trivial, rfl, below_drew _ _, by simp, List.Pairwise.nil⟩
theorem e_79 : Enters Tryz.prog 79 := Enters.of Tryz.func79 rfl
theorem c_ParseInt (t : List UInt8) (hl : t.length ≤ 1048576) : Ret Tryz.prog 79 [sv t, .int .i64 10, .int .i64 64] (fun w => RdO 0 1 2 w) (fun x : Int × Bool × TypeId × Value => .tuple #[.int .i64 x.1, errV x.2.1 x.2.2.1 x.2.2.2]) (fun _ => []) (fun x => PInt t x.1 x.2.1) := by
  refine ⟨e_79, fun w hr => ?_⟩
  have hz : (mkB t).size = t.length := rfl
  cases h : Lib.parseIntB 64 t with
  | ok v =>
    refine (Go.Proofs.Tryz.strconv_ParseInt_10_at64_ok (mkB t) (by omega) v h w).mono ?_
    rintro e w' ⟨rfl, hw⟩
    refine ⟨(v, true, 0, .nilIface), pint_ok h, rfl, ?_, by simp, List.Pairwise.nil⟩
    rcases hw with rfl | ⟨u, rfl⟩
    · exact Below.refl _ _
    · exact Lib.bytesWorld_below _ _ _
  | range =>
    obtain ⟨ev, hv, hev⟩ := hr.rng
    refine (Go.Proofs.Tryz.strconv_ParseInt_10_at64_range (mkB t) (by omega) h ev w hv hev).mono ?_
    rintro e w' ⟨N, rfl, _, _, hb⟩
    exact ⟨(Lib.intSat 64 t, false, _, _), pint_rng h, rfl, hb, by simp, List.Pairwise.nil⟩
  | _ =>
    obtain ⟨ev, hv, hev⟩ := hr.syn
    refine (Go.Proofs.Tryz.strconv_ParseInt_10_at64_syntax (mkB t) (by omega) h ev w hv hev).mono ?_
    rintro e w' ⟨N, rfl, _, _, hb⟩
    exact ⟨(0, false, _, _), pint_syn (fun z e => by rw [h] at e; cases e), rfl, hb, by simp, List.Pairwise.nil⟩
theorem e_37 : Enters Tryz.prog 37 := Enters.of Tryz.func37 rfl
theorem c_linesOf (t : List UInt8) (hl : t.length ≤ 1048576) : Ret Tryz.prog 37 [sv t] (fun w => RdO 0 1 2 w) (fun x : Nat => .tuple #[.slice (some ⟨x, 0, none⟩) ((splitA 10 [] t).length - 1) (splitA 10 [] t).length, .bool (decide ((splitA 10 [] t).getD ((splitA 10 [] t).length - 1) [] = []))]) (fun x => [.row (.slice (some ⟨x, 0, none⟩) (splitA 10 [] t).length (splitA 10 [] t).length) 9 1 (splitA 10 [] t).length ((splitA 10 [] t).flatMap eSt)]) (fun x => True) := by
  refine Ret.of e_37 Tryz.func37 rfl Tryz.ntmps37 rfl rfl (fun w hpre => ?_)
  have hrd := hpre
  have hpp := splitA_pos 10 t
  have hpn := splitA_len 10 t []
  have hm0 : maxLen = 9223372036854775807 := rfl
  refine Ex.regSeq (ExL.pures 2 rfl ?_)
  refine ExL.nil ?_
  refine Ex.regSeq (ExL.pures 1 rfl ?_)
  refine ExL.op rfl (op_ret rfl rfl rfl (c_Split t 10 (by omega)) (fun w hw => RdO.keep hrd hw) rfl rfl (fun x1 hx1 => ?_))
  refine ExL.pures 1 rfl ?_
  refine ExL.nil ?_
  refine Ex.regSeq (ExL.pures 2 rfl ?_)
  refine ExL.free (by first | exact fr_sub64 rfl rfl rfl (by omega) | exact fr_sub rfl rfl rfl) rfl rfl rfl ?_
  refine ExL.pures 1 rfl ?_
  refine ExL.nil ?_
  refine Ex.drawSeqM rfl ?_
  refine ExD.take (i := 0) rfl (by kernel_rfl) (pureVal_ok rfl) ((List.Sublist.refl _)) rfl rfl rfl ?_
  refine ExD.take (i := 1) rfl (by kernel_rfl) (pureVal_ok rfl) ((List.Sublist.refl _)) rfl rfl rfl ?_
  refine ExD.take (i := 2) rfl (by kernel_rfl) (fr_slice_h (sz := 1) (((splitA 10 [] t).length - 1)) (by first | rfl | (push_cast; rfl) | omega) rfl rfl rfl rfl rfl (by omega)) ((List.Sublist.refl _)) rfl rfl rfl ?_
  refine ExD.take (i := 3) rfl (by kernel_rfl) (pureVal_ok rfl) ((List.Sublist.refl _)) rfl rfl rfl ?_
  refine ExD.take (i := 4) rfl (by kernel_rfl) (pureVal_ok rfl) ((List.Sublist.refl _)) rfl rfl rfl ?_
  refine ExD.take (i := 5) rfl (by kernel_rfl) (fr_indexAddr (sz := 1) rfl rfl rfl rfl rfl rfl (by omega)) ((List.Sublist.refl _)) rfl rfl rfl ?_
  refine ExD.take (i := 6) rfl (by kernel_rfl) (fr_load rfl rfl rfl rfl (cellJ (((splitA 10 [] t).length - 1)) (Reads.row (i := 0) rfl) eSt_len ([] : List UInt8) 0 rfl (by omega) (by omega) rfl)) ((List.Sublist.refl _)) rfl rfl rfl ?_
  refine ExD.take (i := 7) rfl (by kernel_rfl) (fr_eqlS (l := ((splitA 10 [] t).getD ((splitA 10 [] t).length - 1) [])) (r := []) rfl rfl rfl) ((List.Sublist.refl _)) rfl rfl rfl ?_
  refine ExD.take (i := 8) rfl (by kernel_rfl) (pureVal_ok rfl) ((List.Sublist.refl _)) rfl rfl rfl ?_
  refine ExD.take (i := 9) rfl (by kernel_rfl) (pureVal_ok rfl) ((List.Sublist.refl _)) rfl rfl rfl ?_
  refine ExD.done (by kernel_rfl) ?_
  refine Ex.ret ?_
  refine RetQ.mk _ rfl (.tmp rfl (.tmp rfl .nil)) (rfl) [0] (rfl) rfl (trivial)
end Go.Proofs.YtddflaaccmjoeaaGreatDoor

/- What these functions of the program hand back, each proved by walking its operations. -/
set_option linter.unusedVariables false
set_option linter.unusedSimpArgs false
set_option maxRecDepth 4000
namespace Go.Proofs.YtddflaaccmjoeaaGreatDoor
open Go Go.Sx Go.RowKit Go.W Go.Proofs
attribute [local irreducible] Ex ExL ExD Op1 Free RetQ MutQ Reads CellO SegO LoadsAs
theorem e_80 : Enters Tryz.prog 80 := Enters.of Tryz.func80 rfl
theorem c_ParseUint (t : List UInt8) (hl : t.length ≤ 1048576) : Ret Tryz.prog 80 [sv t, .int .i64 10, .int .i64 7] (fun w => RdO 0 1 2 w) (fun x : Int × Bool × TypeId × Value => .tuple #[.int .u64 x.1, errV x.2.1 x.2.2.1 x.2.2.2]) (fun _ => []) (fun x => PUint t x.1 x.2.1) := by
  refine ⟨e_80, fun w hr => ?_⟩
  have hz : (mkB t).size = t.length := rfl
  cases h : Lib.parseUintB 7 t with
  | ok u =>
    refine (Go.U7.u7_ok Go.Proofs.Tryz.laysPu14 (mkB t) (by omega) u h w).mono ?_
    rintro e w' ⟨rfl, hw⟩
    refine ⟨((u : Int), true, 0, .nilIface), puint_ok h, rfl, ?_, by simp, List.Pairwise.nil⟩
    rcases hw with rfl | rfl
    · exact Below.refl _ _
    · exact Lib.bytesWorld_below _ _ _
  | range =>
    obtain ⟨ev, hv, hev⟩ := hr.rng
    refine (Go.U7.u7_rng Go.Proofs.Tryz.laysPu14 (mkB t) (by omega) h ev w hv hev).mono ?_
    rintro e w' ⟨N, rfl, _, _, hb⟩
    exact ⟨(127, false, _, _), puint_no ⟨by simp, by simp⟩ (fun z e => by rw [h] at e; cases e), rfl, hb, by simp, List.Pairwise.nil⟩
  | _ =>
    obtain ⟨ev, hv, hev⟩ := hr.syn
    refine (Go.U7.u7_syn Go.Proofs.Tryz.laysPu14 (mkB t) (by omega) h ev w hv hev).mono ?_
    rintro e w' ⟨N, rfl, _, _, hb⟩
    exact ⟨(0, false, _, _), puint_no ⟨by simp, by simp⟩ (fun z e => by rw [h] at e; cases e), rfl, hb, by simp, List.Pairwise.nil⟩
end Go.Proofs.YtddflaaccmjoeaaGreatDoor

/- What these functions of the program hand back, each proved by walking its operations. -/
set_option linter.unusedVariables false
set_option linter.unusedSimpArgs false
set_option maxRecDepth 4000
namespace Go.Proofs.YtddflaaccmjoeaaGreatDoor
open Go Go.Sx Go.RowKit Go.W Go.Proofs
attribute [local irreducible] Ex ExL ExD Op1 Free RetQ MutQ Reads CellO SegO LoadsAs
theorem e_84 : Enters Tryz.prog 84 := Enters.of Tryz.func84 rfl
theorem c_FormatInt (n : Int) (hn : -9223372036854775808 ≤ n ∧ n ≤ 9223372036854775807) : Ret Tryz.prog 84 [.int .i64 n, .int .i64 10] (fun w => TabO Tryz.prog w) (fun _ : Unit => sv (Lib.itoa n)) (fun _ => []) (fun _ => True) :=
  ⟨e_84, fun w ht => (Go.Proofs.Tryz.strconv_FormatInt_10 n hn.1 hn.2 w ht).mono (by rintro e w' ⟨rfl, q, os, rfl⟩; exact ⟨(), trivial, rfl, below_grw w q os, by simp, List.Pairwise.nil⟩)⟩
theorem e_43 : Enters Tryz.prog 43 := Enters.of Tryz.func43 rfl
theorem c_decimal (n : Int) (hn : -9223372036854775808 ≤ n ∧ n ≤ 9223372036854775807) : Ret Tryz.prog 43 [.int .i64 n] (fun w => TabO Tryz.prog w) (fun x : Unit => sv (Lib.itoa n)) (fun x => []) (fun x => True) := by
  refine Ret.of e_43 Tryz.func43 rfl Tryz.ntmps43 rfl rfl (fun w hpre => ?_)
  have htab := hpre
  refine Ex.regSeq (ExL.pures 1 rfl ?_)
  refine ExL.nil ?_
  refine Ex.regSeq (ExL.pures 1 rfl ?_)
  refine ExL.op rfl (op_ret rfl rfl rfl (c_FormatInt n (by omega)) (fun w hw => TabO.keep htab hw) rfl rfl (fun x1 hx1 => ?_))
  refine ExL.pures 1 rfl ?_
  refine ExL.nil ?_
  refine Ex.ret ?_
  refine RetQ.mk () rfl (.tmp rfl .nil) (rfl) [] (rfl) rfl (trivial)
end Go.Proofs.YtddflaaccmjoeaaGreatDoor
