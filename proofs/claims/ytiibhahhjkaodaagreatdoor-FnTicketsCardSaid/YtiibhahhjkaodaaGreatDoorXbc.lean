/- Several texts, one behind the other. -/
import Derived.Test.YtiibhahhjkaodaaGreatDoorProg
import Derived.Lib.ItoaNum
import Derived.Lib.LaidTab
import Derived.Sort.Grow
import Derived.Deep.Draws
import Derived.Lib.Join
import Derived.Lib.ParseIntB
import Derived.Lib.Split
import Derived.Laws.Strings
import Derived.Laws.Strings2
import Derived.Laws.Strings3
import Derived.Laws.Slices
import Derived.Lib.SplitLaws
import Derived.Lib.ParseIntBMem
import Derived.Lib.ParseIntBTie
import Derived.Stop.IfaceNil
import Derived.Handed
import Derived.HandedShaped
import Derived.Shelf.Strings.Builder1
import Derived.Shelf.Strings.Builder2
import Derived.Shelf.Strings.OnBuilder
import Derived.Shelf.Strings.BuilderF
import Derived.Shelf.Utf8.RuneCount
import Derived.Shelf.Strconv.Itoa0
import Derived.Shelf.Strconv.Itoa1
import Derived.Shelf.LaysM
import Derived.Shelf.Strconv.Itoa2
import Derived.Shelf.Strconv.Itoa3
import Derived.Shelf.Strconv.Itoa4
import Derived.Shelf.Strconv.ParseIntEmpty
import Derived.Shelf.Strconv.Clone
import Derived.Shelf.Strconv.SyntaxError
import Derived.Shelf.LaysC
import Derived.Shelf.Strconv.ToError
import Derived.Shelf.Strconv.Lower
import Derived.Shelf.Strconv.ParseUint10
import Derived.Shelf.Strconv.ParseUint10Empty
import Derived.Shelf.Strconv.ParseUint10Any
import Derived.Shelf.Strconv.ParseInt10
import Derived.Shelf.Strconv.RangeError
import Derived.Shelf.Strconv.ToErrorRange
import Derived.Shelf.Strconv.ParseUintEmpty
import Derived.Shelf.Strconv.ParseUint10b64
import Derived.Shelf.Strconv.ParseUint10b32
import Derived.Shelf.Strconv.ParseUint10b16
import Derived.Shelf.Strconv.ParseUint10b8
import Derived.Shelf.Strconv.ParseUint10At
import Derived.Shelf.Strconv.ParseInt10At64
import Derived.Shelf.Strconv.ParseInt10At32
import Derived.Shelf.Strconv.ParseInt10At16
import Derived.Shelf.Strconv.ParseInt10At8
import Derived.Shelf.Strconv.ParseInt10All
import Derived.Shelf.Strconv.ParseIntPublic10
import Derived.Ground.MpProg
import Derived.Shelf.Pu.ParseUintPublic10
import Derived.Shelf.Strings.Search1
import Derived.Shelf.Strings.Search2
import Derived.Shelf.Strings.Search3
import Derived.Shelf.Strings.Count
import Derived.Shelf.Strings.Shaped
import Derived.Shelf.Strings.Prefix
import Derived.Shelf.Strings.Split
import Derived.Shelf.Strings.SplitShaped
import Derived.Shelf.Unicode.Decode
import Derived.Shelf.Strings.RuneCount
import Derived.Shelf.Strings.Explode
import Derived.Shelf.Bits.Mul64
import Derived.Shelf.Strings.Repeat
import Derived.Shelf.Unicode.DecodeSlow
import Derived.Shelf.Unicode.DecodeAny
import Derived.Test.YtiibhahhjkaodaaGreatDoorXaa
import Derived.Test.YtiibhahhjkaodaaGreatDoorXab
import Derived.Test.YtiibhahhjkaodaaGreatDoorXba
import Derived.Test.YtiibhahhjkaodaaGreatDoorXbb
/- What these functions of the program hand back, each proved by walking its operations. -/
set_option linter.unusedVariables false
set_option linter.unusedSimpArgs false
set_option maxRecDepth 4000
namespace Go.Proofs.YtiibhahhjkaodaaGreatDoor
open Go Go.Sx Go.RowKit Go.W Go.Proofs
attribute [local irreducible] Ex ExL ExD Op1 Free RetQ MutQ Reads CellO SegO LoadsAs
theorem e_15 : Enters Tryz.prog 15 := Enters.of Tryz.func15 rfl
theorem c_iMissing (s : List Int) (hu : Nums 255 s) (As : Option Addr) (cs : Nat) (hls : s.length ≤ maxLen) (l : List VTic) (hok : ∀ x ∈ l, OkTic x) (bl : Nat) (cl : Nat) (hll : l.length ≤ maxLen) : Ret Tryz.prog 15 [.slice As s.length cs, .slice (some ⟨bl, 0, none⟩) l.length cl] (fun w => Rd w As (s.flatMap (eI .u8)) ∧ Rd w (some ⟨bl, 0, none⟩) (l.flatMap encT)) (fun x : Option Addr × Nat => .tuple #[.slice x.1 (missV s l).1.length x.2, .int .i64 (missV s l).2]) (fun x => [.row (.slice x.1 (missV s l).1.length x.2) 2 1 (missV s l).1.length ((missV s l).1.flatMap (eI .i64))]) (fun x => True) := by
  refine Ret.of e_15 Tryz.func15 rfl Tryz.ntmps15 rfl rfl (fun w hpre => ?_)
  have hs := hpre.1.base
  have hl := hpre.2.base
  have hm0 : maxLen = 9223372036854775807 := rfl
  refine Ex.regSeq (ExL.pures 2 rfl ?_)
  refine ExL.nil ?_
  refine Ex.seq ?_
  refine Ex.regSeq (ExL.pures 2 rfl ?_)
  refine ExL.op rfl (op_ret rfl rfl rfl (c_ticketsFault s (by assumption) _ _ (by omega) l _ _ (by omega)) (Reads.get (Reads.old hs)) rfl rfl (fun x1 hx1 => ?_))
  refine ExL.pures 1 rfl ?_
  refine ExL.nil ?_
  refine Ex.regSeq (ExL.pures 1 rfl ?_)
  refine ExL.neq rfl rfl rfl rfl rfl rfl (fun h2 => ?_) (fun h2 => ?_)
  · refine ExL.nil ?_
    refine Ex.cond_t rfl ?_
    refine Ex.regSeq (ExL.pures 3 rfl ?_)
    refine ExL.nil ?_
    refine Ex.nilRow 2 1 ?_
    refine Ex.ret ?_
    refine RetQ.mk (none, 0) rfl (.tmp rfl (.tmp rfl .nil)) (t2 (by first | (rw [mi_tf (by assumption)]; first | done | rfl) | (rw [mi_bad (k := k) htf (by omega) hall (gbad (by assumption))]; first | done | rfl) | (rw [mi_far (k := k) htf hkn hall (by assumption)]; first | done | rfl) | (rw [mi_ok (k := k) (j := j) htf hkn hall (by assumption) (by omega)]; first | done | rfl)) (by first | (rw [mi_tf (by assumption)]; first | done | rfl) | (rw [mi_bad (k := k) htf (by omega) hall (gbad (by assumption))]; first | done | rfl) | (rw [mi_far (k := k) htf hkn hall (by assumption)]; first | done | rfl) | (rw [mi_ok (k := k) (j := j) htf hkn hall (by assumption) (by omega)]; first | done | rfl))) [0] (by first | (rw [mi_tf (by assumption)]; first | done | rfl) | (rw [mi_bad (k := k) htf (by omega) hall (gbad (by assumption))]; first | done | rfl) | (rw [mi_far (k := k) htf hkn hall (by assumption)]; first | done | rfl) | (rw [mi_ok (k := k) (j := j) htf hkn hall (by assumption) (by omega)]; first | done | rfl)) rfl (trivial)
  · refine ExL.nil ?_
    refine Ex.cond_f rfl ?_
    refine Ex.skip ?_
    refine Ex.regSeq (ExL.pures 0 rfl ?_)
    refine ExL.op rfl (op_makeMap rfl rfl rfl (fun b3 hm0 => ?_))
    refine ExL.pures 2 rfl ?_
    refine ExL.nil ?_
    refine Ex.seq ?_
    refine Ex.regSeq (ExL.pures 3 rfl ?_)
    refine ExL.nil ?_
    refine Ex.block ?_
    have htf : ¬ tfault s l.length ≠ 0 := (by first | assumption | exact not_not_intro (by assumption))
    obtain ⟨hv, hl60⟩ := tf_zero htf
    refine Ex.loopK (X := Nat) (fun k => [(8, .int .i64 (mostL l k)), (22, .int .i64 k)]) (fun k => [.mset b3 (numsL l k)]) (fun k => k ≤ l.length ∧ ∀ i, i < k → badG s l i = false) (fun k => l.length - k) 0 [(0, _), (7, _), (20, _), (21, _)] [] 1 [0] ⟨rfl, rfl, trivial⟩ ⟨rfl, rfl, rfl, rfl, trivial⟩ (rfl) rfl ⟨Nat.zero_le _, fun i hi => by omega⟩ (fun k hI => ?_)
    have hI : k ≤ l.length ∧ ∀ i, i < k → badG s l i = false := hI
    obtain ⟨hk, hall⟩ := hI
    have hmb := most_bd k hall
    have hnl := numsL_len l k
    refine Ex.regSeq (ExL.pures 0 rfl ?_)
    refine ExL.lss rfl rfl rfl rfl rfl rfl (fun h4 => ?_) (fun h4 => ?_)
    · refine ExL.nil ?_
      refine Ex.seq ?_
      refine Ex.cond_t rfl ?_
      refine Ex.skip ?_
      refine Ex.seq ?_
      refine Ex.block ?_
      refine Ex.regSeq (ExL.pures 0 rfl ?_)
      refine ExL.free (fr_indexAddrF (Reads.old hl) encT_len rfl rfl rfl rfl rfl rfl (by omega)) rfl rfl rfl ?_
      refine ExL.free (fr_loadN rfl rfl rfl rfl rfl (by first | exact segN (Reads.old hl) encT_len rfl zT (by omega) | exact segF (Reads.old hl) encT_len rfl zT (by omega))) rfl rfl rfl ?_
      refine ExL.op rfl (op_alloc rfl rfl rfl rfl rfl (fun b5 => ?_))
      refine ExL.op rfl (op_storeC (i := 0) rfl rfl rfl rfl rfl rfl rfl rfl rfl rfl ?_)
      refine ExL.nil ?_
      refine Ex.seq ?_
      refine Ex.regSeq (ExL.pures 1 rfl ?_)
      refine ExL.free (fr_loadN rfl rfl rfl rfl rfl (SegO.whole (i := 0) rfl)) rfl rfl rfl ?_
      refine ExL.op rfl (op_ret rfl rfl rfl (c_genuine s (by first | assumption | simp_all) (by assumption) _ _ (by omega) (l.getD k zT) (by first | assumption | exact all_at hok _ (by omega))) (Reads.get (Reads.old hs)) rfl rfl (fun x6 hx6 => ?_))
      refine ExL.pures 1 rfl ?_
      refine ExL.nil ?_
      refine Ex.cond rfl (fun hb7 => ?_) (fun hb7 => ?_)
      · replace hb7 := nb_t hb7
        refine Ex.regSeq (ExL.pures 2 rfl ?_)
        refine ExL.nil ?_
        refine Ex.nilRow 2 1 ?_
        refine Ex.ret ?_
        refine RetQ.mk (none, 0) rfl (.tmp rfl (.tmp rfl .nil)) (t2 (by first | (rw [mi_tf (by assumption)]; first | done | rfl) | (rw [mi_bad (k := k) htf (by omega) hall (gbad (by assumption))]; first | done | rfl) | (rw [mi_far (k := k) htf hkn hall (by assumption)]; first | done | rfl) | (rw [mi_ok (k := k) (j := j) htf hkn hall (by assumption) (by omega)]; first | done | rfl)) (by first | (rw [mi_tf (by assumption)]; first | done | rfl) | (rw [mi_bad (k := k) htf (by omega) hall (gbad (by assumption))]; first | done | rfl) | (rw [mi_far (k := k) htf hkn hall (by assumption)]; first | done | rfl) | (rw [mi_ok (k := k) (j := j) htf hkn hall (by assumption) (by omega)]; first | done | rfl))) [0] (by first | (rw [mi_tf (by assumption)]; first | done | rfl) | (rw [mi_bad (k := k) htf (by omega) hall (gbad (by assumption))]; first | done | rfl) | (rw [mi_far (k := k) htf hkn hall (by assumption)]; first | done | rfl) | (rw [mi_ok (k := k) (j := j) htf hkn hall (by assumption) (by omega)]; first | done | rfl)) rfl (trivial)
      · replace hb7 := nb_f hb7
        refine Ex.skip ?_
        refine Ex.regSeq (ExL.pures 2 rfl ?_)
        refine ExL.free (fr_load rfl rfl rfl rfl (CellO.blk (i := 0) rfl rfl)) rfl rfl rfl ?_
        refine ExL.op rfl (op_mapUpdate (i := 1) rfl hm0 rfl rfl rfl rfl rfl rfl rfl ?_)
        refine ExL.nil ?_
        refine Ex.region (ExL.pures 2 rfl ?_)
        refine ExL.free (fr_load rfl rfl rfl rfl (CellO.blk (i := 0) rfl rfl)) rfl rfl rfl ?_
        refine ExL.free (fr_max rfl rfl rfl) rfl rfl rfl ?_
        refine ExL.pures 1 rfl ?_
        refine ExL.nil ?_
        refine Ex.region (ExL.pures 0 rfl ?_)
        refine ExL.free (by first | exact fr_add64 rfl rfl rfl (by omega) | exact fr_add rfl rfl rfl) rfl rfl rfl ?_
        refine ExL.pures 1 rfl ?_
        refine ExL.nil ?_
        refine Hand.mk (k + 1) 2 [1] ⟨rfl, rfl, trivial⟩ ⟨rfl, rfl, rfl, rfl, trivial⟩ (by rw [addK_nums]; rfl) rfl (⟨by omega, all_snoc hall (ggood (by assumption))⟩) (by omega)
    · refine ExL.nil ?_
      refine Ex.seq ?_
      refine Ex.cond_f rfl ?_
      refine Ex.exit ?_
      have hkn : k = l.length := (by omega)
      refine Ex.seq ?_
      refine Ex.regSeq (ExL.pures 2 rfl ?_)
      refine ExL.free (fr_len_mset (i := 0) rfl rfl rfl rfl) rfl rfl rfl ?_
      refine ExL.free (by first | exact fr_sub64 rfl rfl rfl (by omega) | exact fr_sub rfl rfl rfl) rfl rfl rfl ?_
      refine ExL.gtr rfl rfl rfl rfl rfl rfl (fun h8 => ?_) (fun h8 => ?_)
      · refine ExL.nil ?_
        refine Ex.cond_t rfl ?_
        refine Ex.regSeq (ExL.pures 2 rfl ?_)
        refine ExL.nil ?_
        refine Ex.nilRow 2 1 ?_
        refine Ex.ret ?_
        refine RetQ.mk (none, 0) rfl (.tmp rfl (.tmp rfl .nil)) (t2 (by first | (rw [mi_tf (by assumption)]; first | done | rfl) | (rw [mi_bad (k := k) htf (by omega) hall (gbad (by assumption))]; first | done | rfl) | (rw [mi_far (k := k) htf hkn hall (by assumption)]; first | done | rfl) | (rw [mi_ok (k := k) (j := j) htf hkn hall (by assumption) (by omega)]; first | done | rfl)) (by first | (rw [mi_tf (by assumption)]; first | done | rfl) | (rw [mi_bad (k := k) htf (by omega) hall (gbad (by assumption))]; first | done | rfl) | (rw [mi_far (k := k) htf hkn hall (by assumption)]; first | done | rfl) | (rw [mi_ok (k := k) (j := j) htf hkn hall (by assumption) (by omega)]; first | done | rfl))) [0] (by first | (rw [mi_tf (by assumption)]; first | done | rfl) | (rw [mi_bad (k := k) htf (by omega) hall (gbad (by assumption))]; first | done | rfl) | (rw [mi_far (k := k) htf hkn hall (by assumption)]; first | done | rfl) | (rw [mi_ok (k := k) (j := j) htf hkn hall (by assumption) (by omega)]; first | done | rfl)) rfl (trivial)
      · refine ExL.nil ?_
        refine Ex.cond_f rfl ?_
        refine Ex.skip ?_
        refine Ex.regSeq (ExL.pures 0 rfl ?_)
        refine ExL.op rfl (op_buildSlice (sz := 1) rfl rfl rfl rfl rfl rfl rfl rfl (by decide) rfl rfl rfl (fun r9 => ?_))
        refine ExL.pures 1 rfl ?_
        refine ExL.nil ?_
        refine Ex.seq ?_
        refine Ex.regSeq (ExL.pures 1 rfl ?_)
        refine ExL.nil ?_
        refine Ex.block ?_
        refine Ex.loopA (fun j A2 c2 => [(11, .slice A2 (lackL (numsL l k) j).length c2), (12, .int .i64 (j + 1))]) (fun j A2 c2 => [.row (.slice A2 (lackL (numsL l k) j).length c2) 2 1 (lackL (numsL l k) j).length ((lackL (numsL l k) j).flatMap (eI .i64))]) (fun j => (j : Int) ≤ mostL l k) (fun j => (mostL l k).toNat - j) 0 ((some ⟨r9, 0, none⟩)) (0) [(7, _), (8, _)] [_] 2 [0, 1] ⟨rfl, agI (by omega), trivial⟩ ⟨rfl, rfl, trivial⟩ (rfl) rfl (by omega) (fun j A2 c2 hI => ?_)
        have hI : (j : Int) ≤ mostL l k := hI
        have hll2 := lackL_len (numsL l k) j
        refine Ex.seq ?_
        refine Ex.regSeq (ExL.pures 2 rfl ?_)
        refine ExL.leq rfl rfl rfl rfl rfl rfl (fun h10 => ?_) (fun h10 => ?_)
        · refine ExL.nil ?_
          refine Ex.cond_t rfl ?_
          refine Ex.skip ?_
          refine Ex.seq ?_
          refine Ex.block ?_
          refine Ex.regSeq (ExL.pures 2 rfl ?_)
          refine ExL.free (fr_lookup_has (i := 1) rfl rfl rfl rfl rfl rfl rfl) rfl rfl rfl ?_
          refine ExL.pures 1 rfl ?_
          refine ExL.nil ?_
          refine Ex.cond rfl (fun hb11 => ?_) (fun hb11 => ?_)
          · replace hb11 := nb_t hb11
            refine Ex.region (ExL.pures 2 rfl ?_)
            refine ExL.op rfl (op_buildSlice (sz := 1) rfl rfl rfl rfl rfl rfl rfl rfl (by decide) rfl rfl rfl (fun r12 => ?_))
            refine ExL.op rfl (op_append (sz := 1) (bytes := 8) (i := 1) rfl rfl rfl rfl (Reads.row (i := 0) rfl) rfl (fun e => nomatch e) rfl rfl rfl rfl (by constructor <;> first | omega | (unfold maxLen; omega)) rfl rfl (fun A13 cA13 => ?_))
            refine ExL.pures 1 rfl ?_
            refine ExL.nil ?_
            refine Ex.region (ExL.pures 1 rfl ?_)
            refine ExL.free (by first | exact fr_add64 rfl rfl rfl (by omega) | exact fr_add rfl rfl rfl) rfl rfl rfl ?_
            refine ExL.pures 1 rfl ?_
            refine ExL.nil ?_
            refine HandA.of (j + 1) (A13) (cA13) 3 [1, 2] ⟨(by first | (rw [ll_t (by assumption)]; first | done | rfl) | (rw [ll_f (by assumption), List.length_append]; rfl)), agI (by omega), trivial⟩ ⟨rfl, rfl, trivial⟩ (by first | (rw [ll_t (by assumption)]; first | done | rfl) | (rw [ll_f (by assumption), List.length_append, List.flatMap_append]; rfl)) rfl (by omega) (by omega)
          · replace hb11 := nb_f hb11
            refine Ex.skip ?_
            refine Ex.region (ExL.pures 1 rfl ?_)
            refine ExL.free (by first | exact fr_add64 rfl rfl rfl (by omega) | exact fr_add rfl rfl rfl) rfl rfl rfl ?_
            refine ExL.pures 1 rfl ?_
            refine ExL.nil ?_
            refine HandA.of (j + 1) (A2) (c2) 2 [0, 1] ⟨(by first | (rw [ll_t (by assumption)]; first | done | rfl) | (rw [ll_f (by assumption), List.length_append]; rfl)), agI (by omega), trivial⟩ ⟨rfl, rfl, trivial⟩ (by first | (rw [ll_t (by assumption)]; first | done | rfl) | (rw [ll_f (by assumption), List.length_append, List.flatMap_append]; rfl)) rfl (by omega) (by omega)
        · refine ExL.nil ?_
          refine Ex.cond_f rfl ?_
          refine Ex.exit ?_
          refine Ex.regSeq (ExL.pures 3 rfl ?_)
          refine ExL.nil ?_
          refine Ex.ret ?_
          refine RetQ.mk (A2, c2) rfl (.tmp rfl (.tmp rfl .nil)) (t2 (by first | (rw [mi_tf (by assumption)]; first | done | rfl) | (rw [mi_bad (k := k) htf (by omega) hall (gbad (by assumption))]; first | done | rfl) | (rw [mi_far (k := k) htf hkn hall (by assumption)]; first | done | rfl) | (rw [mi_ok (k := k) (j := j) htf hkn hall (by assumption) (by omega)]; first | done | rfl)) (by first | (rw [mi_tf (by assumption)]; first | done | rfl) | (rw [mi_bad (k := k) htf (by omega) hall (gbad (by assumption))]; first | done | rfl) | (rw [mi_far (k := k) htf hkn hall (by assumption)]; first | done | rfl) | (rw [mi_ok (k := k) (j := j) htf hkn hall (by assumption) (by omega)]; first | done | rfl))) [0] (by first | (rw [mi_tf (by assumption)]; first | done | rfl) | (rw [mi_bad (k := k) htf (by omega) hall (gbad (by assumption))]; first | done | rfl) | (rw [mi_far (k := k) htf hkn hall (by assumption)]; first | done | rfl) | (rw [mi_ok (k := k) (j := j) htf hkn hall (by assumption) (by omega)]; first | done | rfl)) rfl (trivial)
end Go.Proofs.YtiibhahhjkaodaaGreatDoor

/- Strings built by a builder; the decimal digits as the library and the specification write them. -/
set_option linter.unusedVariables false
set_option linter.unusedSimpArgs false
namespace Go.Sx
open Go Go.RowKit
variable {C : Cx} {env env' : Env} {m m' : List Ent} {o : Oper} {K : Env → List Ent → Prop}
abbrev bp (b : Nat) (u : Bool) : Value := .pointer (bif u then some ⟨b, 0, none⟩ else none)
theorem op_appendT {d : Nat} {i : Nat} {s x T TS E A c} {xs l : List UInt8} (ho : o.op = .call { callee := .builtin .append, args := #[s, x], argTypes := #[T, TS] })
    (hs : ev env s = some (.slice A xs.length c)) (hx : ev env x = some (sv l)) (hi : m[i]? = some (.row (.slice A xs.length c) E 1 xs.length (xs.flatMap eU))) (hT : C.P.underlying T = some (.slice E)) (hTS : C.P.underlying TS = some .string)
    (hz : (C.P.info? E).map (fun i => (i.size, i.bytes)) = some (1, 1)) (hzz : (C.P.info? E).bind (·.zero) = some (.int .u8 0))
    (hb : xs.length + l.length ≤ 140737488355328) (hd : o.dst = some d) (hlt : Nat.blt d C.n = true)
    (h : ∀ A' c', K ((d, .slice A' (xs ++ l).length c') :: env) (m.set i (.row (.slice A' (xs ++ l).length c') E 1 (xs ++ l).length ((xs ++ l).flatMap eU)))) : Op1 C o env m K := by
  have e : (xs ++ l).length = xs.length + l.length := List.length_append
  refine op_appendS ho hs hx hi hT hTS hz hzz hb hd hlt fun A' c' => ?_
  have := h A' c'
  rwa [e] at this
/-- What is known of a row that is not empty. -/
theorem row_own {i n c sz : Nat} {A : Option Addr} {E xs} (hi : m[i]? = some (.row (.slice A n c) E sz n xs)) (hn : 0 < n) : ∀ w, Holds C.base C.w0 m w → ∃ g, A = some ⟨g, 0, none⟩ ∧ c ≠ 0 := fun w hw => by
  have h := hw.all _ (List.mem_of_getElem? hi)
  rcases h.2 with ⟨_, h0⟩ | ⟨g, cap, cur, hv, _, _, hc, _⟩
  · omega
  · simp only [Value.slice.injEq] at hv
    exact ⟨g, hv.1, by omega⟩
theorem fr_sliceData {T x : _} {a : Addr} {n c : Nat} (ho : o.op = .call { callee := .builtin .unsafeSliceData, args := #[x], argTypes := #[T] }) (hx : ev env x = some (.slice (some a) n c)) (hc : c ≠ 0) : Free C o env m (.pointer (some a)) := by
  intro w0 w hr _
  have h := Lib.run_unsafeSliceData_row (P := C.P) w #[T] o.type a n c hc
  simp only [execOp, ho, resolve, invoke]
  simp [hr.ev hx, builtin, h]
theorem fr_sliceData_n {T x : _} {n c : Nat} (ho : o.op = .call { callee := .builtin .unsafeSliceData, args := #[x], argTypes := #[T] }) (hx : ev env x = some (.slice none n c)) : Free C o env m (.pointer none) := by
  intro w0 w hr _
  have h := Lib.run_unsafeSliceData_nil (P := C.P) w #[T] o.type n c
  simp only [execOp, ho, resolve, invoke]
  simp [hr.ev hx, builtin, h]
theorem fr_unsafeString_n {pt it p q} (ho : o.op = .call { callee := .builtin .unsafeString, args := #[p, q], argTypes := #[pt, it] }) {pp : Option Addr} (hp : ev env p = some (.pointer pp)) (hq : ev env q = some (.int .i64 0)) : Free C o env m (sv []) := by
  intro w0 w hr _
  have h := Lib.run_unsafeString_none (P := C.P) w pt it o.type pp
  simp only [execOp, ho, resolve, invoke]
  simp [hr.ev hp, hr.ev hq, builtin, h]
  rfl
theorem Holds.frz {base w0 w g n c E sz k xs} (h : Holds base w0 (.row (.slice (some ⟨g, 0, none⟩) n c) E sz n xs :: m) w) : Holds base w0 m (w.freeze ⟨g, 0, none⟩ k) := by
  have hall := h.all
  have hg0 := (Ent.holds.lt (hall _ (List.mem_cons_self ..)) g rfl)
  have hgr : w.grownBy (w.freeze ⟨g, 0, none⟩ k) (some g) := by
    unfold World.freeze
    split
    · exact ⟨rfl, rfl, rfl, Nat.le_refl _, fun _ _ _ => rfl⟩
    · exact ⟨rfl, rfl, rfl, by simp, fun j hj hne => by
        simp only [Array.getElem?_modify]
        rw [if_neg (by intro e; exact hne (by rw [e]))]⟩
  have hap := List.pairwise_cons.1 h.apart
  refine ⟨Lib.below_freeze h.below (p := ⟨g, 0, none⟩) hg0.1 k, h.le, fun e he => ?_, hap.2, h.others.trans (KeepsOthers.of_grownBy hgr fun j o' hj ho => (hall _ (List.mem_cons_self ..)).cells rfl j o' hj ho)⟩
  exact (hall e (List.mem_cons_of_mem _ he)).grown hgr (fun b hb heb => by
    obtain rfl := Option.some.inj heb
    exact hap.1 e he _ rfl hb)
/-- unsafe.String over a row of bytes: the row is given away. -/
theorem op_unsafeString {d i : Nat} {pt it p q U g c n : _} {l : List UInt8} {E} (ho : o.op = .call { callee := .builtin .unsafeString, args := #[p, q], argTypes := #[pt, it] })
    (hp : ev env p = some (.pointer (some ⟨g, 0, none⟩))) (hq : ev env q = some (.int .i64 n)) (hi : m[i]? = some (.row (.slice (some ⟨g, 0, none⟩) l.length c) E 1 l.length (l.flatMap eU))) (hn : n = (l.length : Int))
    (hpt : C.P.underlying pt = some (.pointer U)) (hU : U = E) (hc : C.P.cellsOf U = 1) (h0 : 0 < l.length) (hd : o.dst = some d) (hlt : Nat.blt d C.n = true)
    (h : K ((d, sv l) :: env) (m.eraseIdx i)) : Op1 C o env m K := by
  subst hn hU
  refine Op1.of_run hd hlt fun a w hr hh => ?_
  have hown := hh.all _ (List.mem_of_getElem? hi)
  have hown : w.ownsRow C.base U 1 (.slice (some ⟨g, 0, none⟩) l.length c) l.length (l.flatMap eU) := hown
  obtain ⟨hxs, ⟨hv, _⟩ | ⟨g', cap, cur, hv, hb, hg, hnc, hcm, hcs, ht⟩⟩ := hown
  · simp at hv
  simp only [Value.slice.injEq, Option.some.injEq, Addr.mk.injEq, and_true, true_and] at hv
  obtain ⟨rfl, rfl⟩ := hv
  have hmx : maxLen = 9223372036854775807 := rfl
  have hsh : w.shape? g = some (U, c) := by simp [World.shape?, hg]; omega
  have hget : ∀ j x, l[j]? = some x → w.cell? ((⟨g, 0, none⟩ : Addr).add j) = some (.int .u8 x.toNat) := fun j x hj => by
    have hjl := (List.getElem?_eq_some_iff.1 hj).1
    have := flat_get eU_len (0 : UInt8) l j 0 hjl (by omega)
    simp only [Nat.mul_one, Nat.add_zero] at this
    rw [← ht, List.getElem?_take] at this
    rw [if_pos (by omega)] at this
    have hx : l.getD j 0 = x := by simp [List.getD, hj]
    rw [hx] at this
    simp only [eU, List.getElem?_cons_zero] at this
    have h2 : cur[j]? = some (.int .u8 (x.toNat : Int)) := by rw [← Array.getElem?_toList]; exact this
    unfold World.cell? Addr.add
    by_cases hj0 : j = 0
    · subst hj0; simpa [hg] using h2
    · simpa [hj0, hg] using h2
  have hrun := Lib.run_unsafeString_row (P := C.P) w pt it o.type U hpt hc g c hsh l (by intro e; subst e; simp at h0) (by omega) (by omega) hget
  refine ⟨_, w.freeze ⟨g, 0, none⟩ l.length, _, ?_, ?_, h⟩
  · simp [execOp, ho, resolve, invoke, builtin, hr.ev hp, hr.ev hq, hrun]
  · have hp' : m.Perm (.row (.slice (some ⟨g, 0, none⟩) l.length c) U 1 l.length (l.flatMap eU) :: m.eraseIdx i) := by
      obtain ⟨hlt', hgi⟩ := List.getElem?_eq_some_iff.1 hi
      rw [← hgi]
      rw [List.eraseIdx_eq_take_drop_succ]
      have h9 : m = m.take i ++ m[i] :: m.drop (i + 1) := by rw [List.getElem_cons_drop, List.take_append_drop]
      exact (List.Perm.of_eq h9).trans List.perm_middle
    exact (hh.perm hp').frz
/-! ### The library's table of powers of ten -/
def TabO (P : Program) (w : World) : Prop := Lib.TabIs P w "internal/strconv.uint64pow10" .u64 Lib.pow10Tab
theorem TabO.below {P w w'} (h : TabO P w) (hb : Below w.heap.size w w') : TabO P w' := by
  unfold TabO Lib.TabIs World.var? at h ⊢
  cases hg : P.globalNamed "internal/strconv.uint64pow10" with
  | none => simp [hg] at h
  | some g =>
    simp only [hg, Option.bind_some] at h ⊢
    have hlt : g < w.heap.size := by
      rcases Nat.lt_or_ge g w.heap.size with h1 | h1
      · exact h1
      · rw [Array.getElem?_eq_none h1] at h; simp at h
    rw [hb.block g hlt]
    exact h
theorem below_grw (w : World) (k : Nat) (os : Array Obj) : Below w.heap.size w (Sort.grow (w.drewN k) os) :=
  ⟨rfl, rfl, rfl, by show w.heap.size ≤ (w.heap ++ os).size; rw [Array.size_append]; omega, fun j hj => by show (w.heap ++ os)[j]? = _; rw [Array.getElem?_append_left hj]⟩
theorem TabO.keep {P w0 m w} (h : TabO P w0) (hh : Holds w0.heap.size w0 m w) : TabO P w := h.below hh.below
theorem itoa_nn {n : Int} (h : 0 ≤ n) : Lib.itoa n = Lib.decDigits n.toNat := by unfold Lib.itoa; rw [if_neg (by omega)]
theorem itoa_pos (n : Int) : 1 ≤ (Lib.itoa n).length := by
  unfold Lib.itoa
  split
  · simp
  · rw [Lib.decDigits_length]; exact Lib.nDigits_pos _
theorem nDig_le : ∀ (k u : Nat), u < 10 ^ k → 1 ≤ k → Lib.nDigits u ≤ k
  | 0, _, _, h => absurd h (by omega)
  | k + 1, u, hu, _ => by
    by_cases h : u < 10
    · rw [Lib.nDigits_small h]; omega
    · rw [Lib.nDigits_big h]
      have hk : 1 ≤ k := by
        rcases k with _ | k
        · simp at hu; omega
        · omega
      have := nDig_le k (u / 10) (by rw [Nat.pow_succ] at hu; omega) hk
      omega
theorem itoa_le {n : Int} (h : -9223372036854775808 ≤ n ∧ n ≤ 9223372036854775807) : (Lib.itoa n).length ≤ 20 := by
  unfold Lib.itoa
  split
  · rw [List.length_cons, Lib.decDigits_length]
    have := nDig_le 19 n.natAbs (by omega) (by omega)
    omega
  · rw [Lib.decDigits_length]
    have := nDig_le 19 n.toNat (by omega) (by omega)
    omega
theorem itoa_one {n : Int} (h : 0 ≤ n) (h1 : n < 10) : Lib.itoa n = [UInt8.ofNat (48 + n % 10).toNat] := by
  rw [itoa_nn h, Lib.decDigits, dif_pos (by omega)]
  congr 2
  omega
theorem itoa_more {n : Int} (h : 0 ≤ n) (h1 : ¬ n < 10) : Lib.itoa n = Lib.itoa (n / 10) ++ [UInt8.ofNat (48 + n % 10).toNat] := by
  rw [itoa_nn h, itoa_nn (by omega), Lib.decDigits, dif_neg (by omega)]
  congr 3
  · omega
  · omega
theorem eU_one {x : Int} (h : 0 ≤ x ∧ x ≤ 255) : [Value.int .u8 x] = [UInt8.ofNat x.toNat].flatMap eU := by
  rw [List.flatMap_cons, List.flatMap_nil, List.append_nil]
  exact congrArg (· :: []) (b8_cell h)
theorem tS {a b : List UInt8} (h : a = b) : tupleOf [sv a] = sv b := by rw [h]; rfl
theorem vS {a b : List UInt8} (h : a = b) : sv a = sv b := by rw [h]
/-! ### Lines laid one behind the other -/
def joinT (f : Nat → List UInt8) : Nat → List UInt8
  | 0 => []
  | k + 1 => joinT f k ++ f k
theorem joinT_s (f : Nat → List UInt8) (k : Nat) : joinT f (k + 1) = joinT f k ++ f k := rfl
theorem joinT_le {f : Nat → List UInt8} {B : Nat} : ∀ (n : Nat), (∀ i, i < n → (f i).length ≤ B) → (joinT f n).length ≤ n * B
  | 0, _ => by simp [joinT]
  | n + 1, h => by
    rw [joinT, List.length_append, Nat.succ_mul]
    have := joinT_le n fun i hi => h i (by omega)
    have := h n (by omega)
    omega
theorem joinT_pos {f : Nat → List UInt8} (h : ∀ i, 1 ≤ (f i).length) : ∀ (n : Nat), 0 < n → 0 < (joinT f n).length
  | n + 1, _ => by rw [joinT, List.length_append]; have := h n; omega
end Go.Sx

/- Rows of strings; texts joined. -/
set_option linter.unusedVariables false
set_option linter.unusedSimpArgs false
namespace Go.Sx
open Go Go.RowKit
variable {C : Cx} {env env' : Env} {m m' : List Ent} {o : Oper} {K : Env → List Ent → Prop}
def eSt (l : List UInt8) : List Value := [sv l]
theorem eSt_len : ∀ l, (eSt l).length = 1 := fun _ => rfl
def mkB (l : List UInt8) : ByteArray := ⟨l.toArray⟩
theorem mkB_data (l : List UInt8) : (mkB l).data.toList = l := rfl
theorem mkB_map (xs : List (List UInt8)) : (xs.map mkB).map (·.data.toList) = xs := by
  rw [List.map_map]
  exact List.map_id _
theorem join_pre {w : World} {A : Option Addr} {xs : List (List UInt8)} (h : Rd w A (xs.flatMap eSt)) (h0 : 0 < xs.length) : ∃ bk o', A = some ⟨bk, o', none⟩ ∧ bk < w.heap.size ∧ ∀ (j : Nat) x, (xs.map mkB)[j]? = some x → w.cell? ⟨bk, o' + j, none⟩ = some (.string x) := by
  have hget : ∀ j (hj : j < xs.length), (xs.flatMap eSt)[j]? = some (sv (xs.getD j [])) := fun j hj => by
    have := flat_get eSt_len ([] : List UInt8) xs j 0 hj (by omega)
    simp only [Nat.mul_one, Nat.add_zero] at this
    rw [this]; rfl
  obtain ⟨⟨bk, o', sp⟩, rfl, hc⟩ := h 0 _ (hget 0 h0)
  have hz : (⟨bk, o', sp⟩ : Addr).add 0 = ⟨bk, o', sp⟩ := by unfold Addr.add; simp
  rw [hz] at hc
  have hsp : sp = none := by simpa using World.cell?_spot hc
  subst hsp
  refine ⟨bk, o', rfl, World.block_lt_of_cell? _ _ hc, fun j x hx => ?_⟩
  have hj : j < xs.length := by have := (List.getElem?_eq_some_iff.1 hx).1; simpa using this
  obtain ⟨ad, e1, hc'⟩ := h j _ (hget j hj)
  obtain rfl := Option.some.inj e1
  rw [add_at] at hc'
  rw [hc']
  rw [List.getElem?_map] at hx
  have hg : xs[j]? = some xs[j] := List.getElem?_eq_getElem hj
  rw [hg] at hx
  simp only [Option.map_some, Option.some.injEq] at hx
  rw [← hx]
  simp [List.getD, hj, sv, mkB]
theorem row_cap' {i n c sz : Nat} {A : Option Addr} {E xs} (hi : m[i]? = some (.row (.slice A n c) E sz n xs)) : ∀ w, Holds C.base C.w0 m w → n ≤ c := fun w hw => by
  have h := hw.all _ (List.mem_of_getElem? hi)
  rcases h.2 with ⟨hv, h0⟩ | ⟨g, cap, cur, hv, _, _, hc, _⟩
  · omega
  · simp only [Value.slice.injEq] at hv
    omega
theorem agS {a b : List UInt8} (h : a = b) : (some (sv a) : Option Value) = some (sv b) := by rw [h]
theorem itoa_neg {n : Int} (h : n < 0) : Lib.itoa n = 45 :: Lib.itoa (-n) := by
  rw [itoa_nn (n := -n) (by omega)]
  unfold Lib.itoa
  rw [if_pos h]
  congr 2
  omega
end Go.Sx

/- The text of digits. -/
set_option linter.unusedVariables false
namespace Go.W
open Go Go.Sx
/-- The first k parts. -/
def partsF (f : Nat → List UInt8) (k : Nat) : List (List UInt8) := (List.range k).map f
theorem partsF_len (f : Nat → List UInt8) (k : Nat) : (partsF f k).length = k := by simp [partsF]
theorem partsF_s (f : Nat → List UInt8) (k : Nat) : partsF f (k + 1) = partsF f k ++ [f k] := by simp [partsF, List.range_succ]
theorem joinTail_snoc (sep : List UInt8) (r : List (List UInt8)) (x : List UInt8) : Lib.joinTail sep (r ++ [x]) = Lib.joinTail sep r ++ (sep ++ x) := by simp [Lib.joinTail]
theorem join_snoc {xs : List (List UInt8)} (h : xs ≠ []) (x sep : List UInt8) : Lib.join (xs ++ [x]) sep = Lib.join xs sep ++ sep ++ x := by
  cases xs with
  | nil => exact absurd rfl h
  | cons y r => rw [List.cons_append, Lib.join_cons, Lib.join_cons, joinTail_snoc, List.append_assoc, List.append_assoc]
/-- The parts joined by one that lays them one behind the other, a separator behind each but the last of n. -/
def sepT (f : Nat → List UInt8) (sep : List UInt8) (n k : Nat) : List UInt8 := if k = 0 then [] else Lib.join (partsF f k) sep ++ (if k < n then sep else [])
theorem sepT_0 (f : Nat → List UInt8) (sep : List UInt8) (n : Nat) : sepT f sep n 0 = [] := rfl
theorem sepT_mid {f : Nat → List UInt8} {sep : List UInt8} {n k : Nat} (h : k < n) : Lib.join (partsF f (k + 1)) sep = sepT f sep n k ++ f k := by
  unfold sepT
  by_cases h0 : k = 0
  · subst h0
    rw [if_pos rfl]
    show Lib.join [f 0] sep = _
    rw [Lib.join_one]; rfl
  · rw [if_neg h0, if_pos h, partsF_s, join_snoc (by intro e; have := partsF_len f k; rw [e] at this; simp at this; omega)]
theorem sepT_s {f : Nat → List UInt8} {sep : List UInt8} {n k : Nat} (h : k + 1 < n) : sepT f sep n (k + 1) = sepT f sep n k ++ f k ++ sep := by
  rw [← sepT_mid (by omega : k < n)]
  show (if k + 1 = 0 then _ else _) = _
  rw [if_neg (by omega), if_pos h]
theorem sepT_l {f : Nat → List UInt8} {sep : List UInt8} {n k : Nat} (h : k + 1 = n) : sepT f sep n (k + 1) = sepT f sep n k ++ f k := by
  rw [← sepT_mid (by omega : k < n)]
  show (if k + 1 = 0 then _ else _) = _
  rw [if_neg (by omega), if_neg (by omega), List.append_nil]
theorem sepT_end {f : Nat → List UInt8} {sep : List UInt8} {n : Nat} : sepT f sep n n = Lib.join (partsF f n) sep := by
  unfold sepT
  split
  · rename_i h; subst h; rfl
  · rw [if_neg (by omega), List.append_nil]
theorem sepT_le {f : Nat → List UInt8} {sep : List UInt8} {B n : Nat} (hf : ∀ i, i < n → (f i).length ≤ B) : ∀ k, k ≤ n → (sepT f sep n k).length ≤ k * (B + sep.length)
  | 0, _ => by simp [sepT]
  | k + 1, h => by
    have ih := sepT_le (sep := sep) hf k (by omega)
    have h1 := hf k (by omega)
    rw [Nat.succ_mul]
    rcases Nat.lt_or_ge (k + 1) n with h2 | h2
    · rw [sepT_s h2, List.length_append, List.length_append]; omega
    · rw [sepT_l (by omega), List.length_append]; omega
/-! ### A digit, the digits -/
def dgT (b d : Int) : List UInt8 := if 10 < b ∧ d < 10 then 48 :: Lib.itoa d else Lib.itoa d
theorem dgT_t {b d : Int} (h : 10 < b) (h1 : d < 10) : [48] ++ Lib.itoa d = dgT b d := by unfold dgT; rw [if_pos ⟨h, h1⟩]; rfl
theorem dgT_f {b d : Int} (h : ¬ (10 < b ∧ d < 10)) : Lib.itoa d = dgT b d := by unfold dgT; rw [if_neg h]
theorem itoa_len1 {d : Int} (h : 0 ≤ d) (h1 : d < 10) : (Lib.itoa d).length = 1 := by rw [itoa_one h h1]; rfl
theorem itoa_len2 {d : Int} (h : 10 ≤ d) (h1 : d < 100) : (Lib.itoa d).length = 2 := by
  rw [itoa_more (by omega) (by omega), List.length_append, itoa_len1 (by omega) (by omega)]; rfl
theorem dgT_le {b d : Int} (h : 0 ≤ d) (h1 : d < 100) : (dgT b d).length ≤ 2 := by
  unfold dgT
  split
  · rename_i h2; rw [List.length_cons, itoa_len1 h h2.2]; omega
  · rcases Int.lt_or_le d 10 with h2 | h2
    · rw [itoa_len1 h h2]; omega
    · rw [itoa_len2 h2 h1]; omega
theorem dgT_pos (b d : Int) : 1 ≤ (dgT b d).length := by
  unfold dgT
  split
  · simp
  · exact itoa_pos d
/-- The part of place j, from the top. -/
def dpart (s l : List Int) (j : Nat) : List UInt8 := dgT (s.getD (s.length - 1 - j) 0) (l.getD (s.length - 1 - j) 0)
def digT (s l : List Int) : List UInt8 := Lib.join (partsF (dpart s l) s.length) [58]
def digTx (s l : List Int) : List UInt8 := if (validStack s && validDig s l) = true then digT s l else []
theorem digTx_f {s l : List Int} (h : (validStack s && validDig s l) = false) : digTx s l = [] := by unfold digTx; rw [if_neg (by simp [h])]
theorem digTx_t {s l : List Int} (h : (validStack s && validDig s l) = true) : digTx s l = digT s l := by unfold digTx; rw [if_pos h]
theorem dpart_le {s l : List Int} (hs : Stk s) (hd : DigOk s l) {j : Nat} (hj : j < s.length) : (dpart s l j).length ≤ 2 := by
  have h1 := hs.bases (s.length - 1 - j) (by omega)
  have h2 := hd (s.length - 1 - j) (by omega)
  exact dgT_le h2.1 (by omega)
theorem sepD_le {s l : List Int} (hs : Stk s) (hd : DigOk s l) {k : Nat} (hk : k ≤ s.length) : (sepT (dpart s l) [58] s.length k).length ≤ 24 := by
  have h1 := sepT_le (f := dpart s l) (sep := [58]) (B := 2) (n := s.length) (fun i hi => dpart_le hs hd hi) k hk
  have h2 := hs.len8
  simp only [List.length_cons, List.length_nil] at h1
  omega
theorem digT_le {s l : List Int} (hs : Stk s) (hd : DigOk s l) : (digT s l).length ≤ 24 := by
  unfold digT
  rw [← sepT_end]
  exact sepD_le hs hd (Nat.le_refl _)
end Go.W
namespace Go.W
open Go Go.Sx
def padT (n d : Int) : List UInt8 := (if max 0 (d - ((Lib.itoa n).length : Int)) = 1 then [48] else []) ++ Lib.itoa n
theorem pad_dg {b d : Int} (hb : 2 ≤ b ∧ b ≤ 100) (hd : 0 ≤ d ∧ d < b) : ((Lib.itoa (b - 1)).length : Int) ≤ (Lib.itoa d).length + 1 ∧ padT d ((Lib.itoa (b - 1)).length : Int) = dgT b d := by
  unfold padT dgT
  rcases Int.lt_or_le d 10 with h1 | h1
  · rw [itoa_len1 hd.1 h1]
    rcases Int.lt_or_le (b - 1) 10 with h2 | h2
    · rw [itoa_len1 (by omega) h2, if_neg (by omega), if_neg (by omega)]
      exact ⟨by omega, rfl⟩
    · rw [itoa_len2 h2 (by omega), if_pos (by omega), if_pos ⟨by omega, h1⟩]
      exact ⟨by omega, rfl⟩
  · rw [itoa_len2 h1 (by omega), itoa_len2 (d := b - 1) (by omega) (by omega), if_neg (by omega), if_neg (by omega)]
    exact ⟨by omega, rfl⟩
end Go.W

/- The text of totals. -/
set_option linter.unusedVariables false
namespace Go.W
open Go Go.Sx
/-- A builder in a loop: how far, whether it was written, where its bytes lie. -/
structure BdS where
  k : Nat
  u : Bool
  A : Option Addr
  c : Nat
def tlin (x : VP) : List UInt8 := Lib.itoa x.a ++ [32] ++ Lib.itoa x.b ++ [10]
def tText (l : List VP) (k : Nat) : List UInt8 := joinT (fun i => tlin (l.getD i zP)) k
def totTx (l : List VP) : List UInt8 := if validTot l = true then tText l l.length else []
theorem totTx_f {l : List VP} (h : validTot l = false) : totTx l = [] := by unfold totTx; rw [if_neg (by simp [h])]
theorem totTx_t {l : List VP} (h : validTot l = true) : totTx l = tText l l.length := by unfold totTx; rw [if_pos h]
theorem tlin_le {x : VP} (ha : 0 ≤ x.a ∧ x.a ≤ 100000) (hb : 0 ≤ x.b ∧ x.b ≤ 1000000000000) : (tlin x).length ≤ 42 := by
  have h1 := itoa_le (n := x.a) (by omega)
  have h2 := itoa_le (n := x.b) (by omega)
  simp only [tlin, List.length_append, List.length_cons, List.length_nil]
  omega
theorem tText_le {l : List VP} (h : Tot l) {k : Nat} (hk : k ≤ l.length) : (tText l k).length ≤ 2520 := by
  have h1 := joinT_le (f := fun i => tlin (l.getD i zP)) (B := 42) k fun i hi => tlin_le (h.day i (by omega)) (h.cnt i (by omega))
  have h2 := h.len
  unfold tText
  omega
theorem tText_pos {l : List VP} {k : Nat} (hk : 0 < k) : tText l k ≠ [] := by
  have := joinT_pos (f := fun i => tlin (l.getD i zP)) (fun i => by simp only [tlin, List.length_append, List.length_cons, List.length_nil]; omega) k hk
  intro h
  unfold tText at h
  rw [h] at this
  simp at this
end Go.W

/- The texts of a ticket and of a log. -/
set_option linter.unusedVariables false
namespace Go.W
open Go Go.Sx
def ticT (s : List Int) (t : VTic) : List UInt8 := Lib.itoa t.number ++ [32] ++ digT s t.shows.l ++ [32] ++ Lib.itoa t.check
def ticTx (s : List Int) (t : VTic) : List UInt8 := if validStack s = true ∧ genT s t = true then ticT s t else []
theorem ticTx_0 {s : List Int} {t : VTic} (h : validStack s = false) : ticTx s t = [] := if_neg (by simp [h])
theorem ticTx_1 {s : List Int} {t : VTic} (h : genT s t = false) : ticTx s t = [] := if_neg (by simp [h])
theorem ticTx_t {s : List Int} {t : VTic} (h : validStack s = true) (h1 : genT s t = true) : ticTx s t = ticT s t := if_pos ⟨h, h1⟩
theorem gen_of {s : List Int} {t : VTic} (h : genT s t = true) : (1 ≤ t.number ∧ t.number ≤ 1000000) ∧ validDig s t.shows.l = true ∧ t.check = check t.number t.shows.l := of_decide_eq_true h
def dsv (s : List Int) (v : Int) : List Int := (dig (digs s v)).l
def logLn (s : List Int) (x : VP) : List UInt8 := Lib.itoa x.a ++ [32] ++ digT s (dsv s x.b) ++ [10]
def lText (s : List Int) (l : List VP) (k : Nat) : List UInt8 := joinT (fun i => logLn s (l.getD i zP)) k
def logTx (s : List Int) (l : List VP) : List UInt8 := if validLog s l = true then lText s l l.length else []
theorem logTx_f {s : List Int} {l : List VP} (h : validLog s l = false) : logTx s l = [] := if_neg (by simp [h])
theorem logTx_t {s : List Int} {l : List VP} (h : validLog s l = true) : logTx s l = lText s l l.length := if_pos h
theorem dsv_num {s : List Int} (h : Stk s) (v : Int) : Nums 255 (dsv s v) := by unfold dsv; rw [dig_l (digs_len _ _)]; exact digs_num h.bases
theorem dsv_valid {s : List Int} (h : Stk s) (v : Int) : validDig s (dsv s v) = true := by unfold dsv; rw [dig_l (digs_len _ _)]; exact digs_valid h
theorem dsv_tx {s : List Int} (hv : validStack s = true) (v : Int) : digTx s (dsv s v) = digT s (dsv s v) := digTx_t (by rw [hv, dsv_valid (stk hv)]; rfl)
theorem dsv_le {s : List Int} (hv : validStack s = true) (v : Int) : (digT s (dsv s v)).length ≤ 24 := digT_le (stk hv) (digOk (stk hv).len8 (dsv_num (stk hv) v) (dsv_valid (stk hv) v))
theorem lText_le {s : List Int} {l : List VP} (hv : validStack s = true) (hl : l.length ≤ 1000) (hd : ∀ i, i < l.length → -9223372036854775808 ≤ (l.getD i zP).a ∧ (l.getD i zP).a ≤ 9223372036854775807) {k : Nat} (hk : k ≤ l.length) : (lText s l k).length ≤ 46000 := by
  have h1 := joinT_le (f := fun i => logLn s (l.getD i zP)) (B := 46) k fun i hi => by
    have h2 := itoa_le (hd i (by omega))
    have h3 := dsv_le hv (l.getD i zP).b
    simp only [logLn, List.length_append, List.length_cons, List.length_nil]
    omega
  unfold lText
  omega
theorem lText_pos {s : List Int} {l : List VP} {k : Nat} (hk : 0 < k) : lText s l k ≠ [] := by
  have := joinT_pos (f := fun i => logLn s (l.getD i zP)) (fun i => by simp only [logLn, List.length_append, List.length_cons, List.length_nil]; omega) k hk
  intro h
  unfold lText at h
  rw [h] at this
  simp at this
theorem lText_s (s : List Int) (l : List VP) (k : Nat) : lText s l (k + 1) = lText s l k ++ (Lib.itoa (l.getD k zP).a ++ [32] ++ digT s (dsv s (l.getD k zP).b) ++ [10]) := rfl
end Go.W

/- Numbers read from their texts. -/
set_option linter.unusedVariables false
set_option linter.unusedSimpArgs false
namespace Go.W
open Go Go.Sx
def isDig (c : UInt8) : Prop := 48 ≤ c.toNat ∧ c.toNat ≤ 57
def numV (t : List UInt8) : Nat := t.foldl (fun a c => 10 * a + (c.toNat - 48)) 0
theorem numV_snoc (t : List UInt8) (c : UInt8) : numV (t ++ [c]) = 10 * numV t + (c.toNat - 48) := by simp [numV, List.foldl_append]
/-- What a text of a number is: digits, at least one, no nought ahead of another digit. -/
def numOk (t : List UInt8) : Prop := t ≠ [] ∧ (∀ c ∈ t, isDig c) ∧ (t.length = 1 ∨ t.getD 0 0 ≠ 48)
theorem u8_eq {c : UInt8} {n : Nat} (h : n < 256) (e : c.toNat = n) : UInt8.ofNat n = c := by
  apply UInt8.toNat_inj.1
  rw [UInt8.toNat_ofNat']
  omega
theorem itoa_numV : ∀ (k : Nat) (t : List UInt8), t.length = k → numOk t → Lib.itoa (numV t : Int) = t
  | 0, t, hk, h => absurd (List.eq_nil_of_length_eq_zero hk) h.1
  | k + 1, t, hk, h => by
    have hne := h.1
    obtain ⟨u, c, rfl⟩ : ∃ u c, t = u ++ [c] := ⟨t.dropLast, t.getLast hne, (List.dropLast_concat_getLast hne).symm⟩
    have hc : isDig c := h.2.1 c (by simp)
    have hul : u.length = k := by simpa using hk
    rw [numV_snoc]
    unfold isDig at hc
    rcases u with _ | ⟨a, r⟩
    · rw [itoa_one (by simp [numV] <;> omega) (by simp [numV] <;> omega)]
      simp only [List.nil_append]
      congr 1
      exact u8_eq (by simp [numV] <;> omega) (by simp [numV] <;> omega)
    · have h0 : (a :: r).getD 0 0 ≠ 48 := by
        rcases h.2.2 with h1 | h1
        · simp at h1
        · simpa using h1
      have hu : numOk (a :: r) := ⟨by simp, fun x hx => h.2.1 x (List.mem_append_left _ hx), .inr h0⟩
      have ih := itoa_numV k (a :: r) hul hu
      have hpos : 1 ≤ numV (a :: r) := by
        rcases Nat.eq_zero_or_pos (numV (a :: r)) with h1 | h1
        · exfalso
          rw [h1] at ih
          rw [itoa_one (by decide) (by decide)] at ih
          simp at ih
          exact h0 (by simp [← ih.1])
        · exact h1
      rw [itoa_more (by omega) (by omega)]
      have e1 : ((10 * numV (a :: r) + (c.toNat - 48) : Nat) : Int) / 10 = (numV (a :: r) : Int) := by omega
      rw [e1, ih]
      congr 2
      exact u8_eq (by omega) (by omega)
theorem numV_one {c : UInt8} : numV [c] = c.toNat - 48 := by simp [numV]
theorem u8_nat {n : Nat} (h : n < 256) : (UInt8.ofNat n).toNat = n := by rw [UInt8.toNat_ofNat']; omega
theorem itoa_ok : ∀ (k : Nat) (n : Int), n.toNat = k → 0 ≤ n → numOk (Lib.itoa n) ∧ (numV (Lib.itoa n) : Int) = n := by
  intro k
  induction k using Nat.strongRecOn with
  | ind k ih =>
    intro n hk h0
    by_cases h1 : n < 10
    · rw [itoa_one h0 h1]
      have e := u8_nat (n := (48 + n % 10).toNat) (by omega)
      refine ⟨⟨by simp, fun c hc => ?_, .inl rfl⟩, ?_⟩
      · rw [List.mem_singleton] at hc
        subst hc
        unfold isDig
        rw [e]; omega
      · rw [numV_one, e]; omega
    · rw [itoa_more h0 h1]
      obtain ⟨i1, i2⟩ := ih (n / 10).toNat (by omega) (n / 10) rfl (by omega)
      have e := u8_nat (n := (48 + n % 10).toNat) (by omega)
      refine ⟨⟨by simp, fun c hc => ?_, .inr ?_⟩, ?_⟩
      · rcases List.mem_append.1 hc with hc | hc
        · exact i1.2.1 c hc
        · rw [List.mem_singleton] at hc
          subst hc
          unfold isDig
          rw [e]; omega
      · rcases i1.2.2 with h2 | h2
        · have h3 := itoa_len_one h2 (by omega)
          rw [h3]
          show (UInt8.ofNat (48 + (n / 10) % 10).toNat) ≠ 48
          intro h4
          have h5 := congrArg UInt8.toNat h4
          rw [u8_nat (by omega)] at h5
          simp at h5
          have h6 : n / 10 < 10 := itoa_len_lt h2 (by omega)
          omega
        · have hne := i1.1
          cases hL : Lib.itoa (n / 10) with
          | nil => exact absurd hL hne
          | cons a r => rw [hL] at h2; simpa using h2
      · rw [numV_snoc, e]; omega
where
  itoa_len_lt {m : Int} (h : (Lib.itoa m).length = 1) (h0 : 0 ≤ m) : m < 10 := by
    rcases Int.lt_or_le m 10 with h1 | h1
    · exact h1
    · rw [itoa_more h0 (by omega), List.length_append] at h
      have := itoa_pos (m / 10)
      simp at h
      rw [h] at this
      simp at this
  itoa_len_one {m : Int} (h : (Lib.itoa m).length = 1) (h0 : 0 ≤ m) : Lib.itoa m = [UInt8.ofNat (48 + m % 10).toNat] := itoa_one h0 (itoa_len_lt h h0)
end Go.W

/- Texts cut at a byte. -/
set_option linter.unusedVariables false
set_option linter.unusedSimpArgs false
namespace Go.W
open Go Go.Sx
/-- The pieces of a text behind a piece that has begun. -/
def splitA (c : UInt8) : List UInt8 → List UInt8 → List (List UInt8)
  | acc, [] => [acc]
  | acc, x :: r => if x = c then acc :: splitA c [] r else splitA c (acc ++ [x]) r
theorem splitA_nil (c : UInt8) (acc : List UInt8) : splitA c acc [] = [acc] := rfl
theorem splitA_y {c x : UInt8} {acc r : List UInt8} (h : x = c) : splitA c acc (x :: r) = acc :: splitA c [] r := if_pos h
theorem splitA_n {c x : UInt8} {acc r : List UInt8} (h : ¬ x = c) : splitA c acc (x :: r) = splitA c (acc ++ [x]) r := if_neg h
theorem splitA_ne (c : UInt8) : ∀ (s acc : List UInt8), splitA c acc s ≠ []
  | [], acc => by simp [splitA]
  | x :: r, acc => by
    unfold splitA
    split
    · simp
    · exact splitA_ne c r _
theorem index_cons (c b : UInt8) (l : List UInt8) : Lib.index (b :: l) [c] = if b = c then 0 else if Lib.index l [c] = -1 then -1 else Lib.index l [c] + 1 := by
  show (if [c].isPrefixOf (b :: l) then (0 : Int) else if Lib.index l [c] == -1 then -1 else Lib.index l [c] + 1) = _
  by_cases h : b = c
  · subst h; simp [List.isPrefixOf]
  · have h' : ¬ c = b := fun e => h e.symm
    simp [List.isPrefixOf, h, h']
theorem splitA_idx (c : UInt8) : ∀ (s acc : List UInt8), (Lib.index s [c] = -1 → splitA c acc s = [acc ++ s]) ∧ ∀ i : Nat, Lib.index s [c] = i → splitA c acc s = (acc ++ s.take i) :: splitA c [] (s.drop (i + 1))
  | [], acc => ⟨fun _ => by simp [splitA], fun i h => by
    have : Lib.index [] [c] = -1 := rfl
    omega⟩
  | x :: r, acc => by
    rw [index_cons]
    by_cases hx : x = c
    · rw [if_pos hx, splitA_y hx]
      refine ⟨fun h => absurd h (by decide), fun i h => ?_⟩
      obtain rfl : i = 0 := by omega
      simp
    · rw [if_neg hx, splitA_n hx]
      obtain ⟨h1, h2⟩ := splitA_idx c r (acc ++ [x])
      by_cases hi : Lib.index r [c] = -1
      · rw [if_pos hi]
        refine ⟨fun _ => by rw [h1 hi]; simp, fun i h => by omega⟩
      · rw [if_neg hi]
        have hg := Lib.index_ge r [c]
        refine ⟨fun h => by omega, fun i h => ?_⟩
        obtain ⟨j, rfl⟩ : ∃ j, i = j + 1 := ⟨i - 1, by omega⟩
        rw [h2 j (by omega)]
        simp
/-- The library's pieces are these. -/
theorem splitK_eq (c : UInt8) : ∀ (k : Nat) (s : List UInt8), Lib.count s [c] = k → Lib.splitK [c] 0 k s = splitA c [] s := by
  intro k
  induction k with
  | zero =>
    intro s h
    rcases Int.lt_or_le (Lib.index s [c]) 0 with h1 | h1
    · have hm : Lib.index s [c] = -1 := by have := Lib.index_ge s [c]; omega
      rw [(splitA_idx c s []).1 hm]; rfl
    · obtain ⟨i, hi⟩ := Int.eq_ofNat_of_zero_le h1
      have := Lib.count_hit (sub := [c]) (by simp) hi
      omega
  | succ k ih =>
    intro s h
    rcases Int.lt_or_le (Lib.index s [c]) 0 with h1 | h1
    · have hm : Lib.index s [c] = -1 := by have := Lib.index_ge s [c]; omega
      rw [Lib.count_miss hm] at h
      omega
    · obtain ⟨i, hi⟩ := Int.eq_ofNat_of_zero_le h1
      have hc := Lib.count_hit (sub := [c]) (by simp) hi
      have hn : ¬ (Lib.index s [c] == -1) = true := fun e => by have := beq_iff_eq.1 e; omega
      rw [(splitA_idx c s []).2 i hi, Lib.splitK, if_neg hn]
      have e : (Lib.index s [c]).toNat = i := by omega
      rw [e]
      simp only [List.length_cons, List.length_nil, Nat.zero_add] at hc ⊢
      rw [ih _ (by omega)]
      simp
theorem split_eq (c : UInt8) (s : List UInt8) : Lib.split s [c] = splitA c [] s := splitK_eq c _ s rfl
theorem join_cons2 (x y : List UInt8) (r : List (List UInt8)) (sep : List UInt8) : Lib.join (x :: y :: r) sep = x ++ sep ++ Lib.join (y :: r) sep := by
  rw [Lib.join_cons, Lib.join_cons]
  simp [Lib.joinTail]
theorem join_split (c : UInt8) : ∀ (s acc : List UInt8), Lib.join (splitA c acc s) [c] = acc ++ s
  | [], acc => by rw [splitA_nil, Lib.join_one, List.append_nil]
  | x :: r, acc => by
    by_cases hx : x = c
    · rw [splitA_y hx]
      have ih := join_split c r []
      cases hs : splitA c [] r with
      | nil => exact absurd hs (splitA_ne c r [])
      | cons y ys =>
        rw [hs] at ih
        rw [join_cons2, ih, hx]
        simp
    · rw [splitA_n hx, join_split c r (acc ++ [x])]
      simp
theorem split_no (c : UInt8) : ∀ (s acc : List UInt8), c ∉ acc → ∀ p ∈ splitA c acc s, c ∉ p
  | [], acc, h, p, hp => by
    rw [splitA_nil, List.mem_singleton] at hp
    subst hp; exact h
  | x :: r, acc, h, p, hp => by
    by_cases hx : x = c
    · rw [splitA_y hx, List.mem_cons] at hp
      rcases hp with rfl | hp
      · exact h
      · exact split_no c r [] (by simp) p hp
    · rw [splitA_n hx] at hp
      exact split_no c r _ (by
        rw [List.mem_append, List.mem_singleton]
        rintro (h1 | h1)
        · exact h h1
        · exact hx h1.symm) p hp
theorem splitA_piece {c : UInt8} : ∀ (x acc r : List UInt8), c ∉ x → splitA c acc (x ++ c :: r) = (acc ++ x) :: splitA c [] r
  | [], acc, r, _ => by rw [List.nil_append, splitA_y rfl, List.append_nil]
  | a :: x, acc, r, h => by
    rw [List.mem_cons, not_or] at h
    rw [List.cons_append, splitA_n (fun e => h.1 e.symm), splitA_piece x _ r h.2]
    simp
theorem splitA_last {c : UInt8} : ∀ (x acc : List UInt8), c ∉ x → splitA c acc x = [acc ++ x]
  | [], acc, _ => by rw [splitA_nil, List.append_nil]
  | a :: x, acc, h => by
    rw [List.mem_cons, not_or] at h
    rw [splitA_n (fun e => h.1 e.symm), splitA_last x _ h.2]
    simp
/-- What is joined comes apart again. -/
theorem split_join {c : UInt8} : ∀ (xs : List (List UInt8)), xs ≠ [] → (∀ x ∈ xs, c ∉ x) → splitA c [] (Lib.join xs [c]) = xs
  | [], h, _ => absurd rfl h
  | [x], _, h => by rw [Lib.join_one, splitA_last x [] (h x (by simp))]; rfl
  | x :: y :: r, _, h => by
    rw [join_cons2, List.append_assoc]
    show splitA c [] (x ++ c :: ([] ++ Lib.join (y :: r) [c])) = _
    rw [splitA_piece x [] _ (h x (by simp)), List.nil_append, List.nil_append, split_join (y :: r) (by simp) (fun z hz => h z (List.mem_cons_of_mem _ hz))]
end Go.W

/- The library's numbers read back. -/
set_option linter.unusedVariables false
set_option linter.unusedSimpArgs false
namespace Go.W
open Go Go.Sx
def numF (a : Nat) (l : List UInt8) : Nat := l.foldl (fun a c => 10 * a + (c.toNat - 48)) a
theorem numF_ge : ∀ (l : List UInt8) (a : Nat), a ≤ numF a l
  | [], a => Nat.le_refl _
  | c :: r, a => by
    have := numF_ge r (10 * a + (c.toNat - 48))
    show a ≤ numF (10 * a + (c.toNat - 48)) r
    omega
theorem parse_digits : ∀ (l : List UInt8) (a : Nat), (∀ c ∈ l, isDig c) → numF a l ≤ 2 ^ 64 - 1 → Lib.parseUintM (2 ^ 64 - 1) a l = .ok (numF a l)
  | [], a, _, _ => rfl
  | c :: r, a, hd, hn => by
    have hc : isDig c := hd c (by simp)
    have e : numF a (c :: r) = numF (10 * a + (c.toNat - 48)) r := rfl
    rw [e] at hn ⊢
    have hg := numF_ge r (10 * a + (c.toNat - 48))
    unfold isDig at hc
    rw [Lib.parseUintM, if_pos hc, if_neg (by omega), if_neg (by omega), Nat.mul_comm a 10]
    exact parse_digits r _ (fun x hx => hd x (List.mem_cons_of_mem _ hx)) hn
theorem parse_nat {n : Int} (h : 0 ≤ n) (h1 : n ≤ 9223372036854775808) : Lib.parseUintB 64 (Lib.itoa n) = .ok n.toNat := by
  obtain ⟨hk, hv⟩ := itoa_ok _ n rfl h
  unfold Lib.parseUintB
  rw [if_neg hk.1]
  have e : numF 0 (Lib.itoa n) = numV (Lib.itoa n) := rfl
  rw [parse_digits _ 0 hk.2.1 (by rw [e]; omega), e]
  congr 1
  omega
/-- A number's text is read as the number. -/
theorem parse_itoa {n : Int} (h : -9223372036854775808 ≤ n ∧ n ≤ 9223372036854775807) : Lib.parseIntB 64 (Lib.itoa n) = .ok n := by
  by_cases h0 : n < 0
  · rw [itoa_neg h0]
    have hp := parse_nat (n := -n) (by omega) (by omega)
    unfold Lib.parseIntB
    have e1 : (45 : UInt8).toNat = 45 := by decide
    simp only [e1, or_true, if_true, hp]
    rw [if_neg (by simp), if_neg (by simp; omega)]
    congr 1
    omega
  · have hk := (itoa_ok _ n rfl (by omega)).1
    have hp := parse_nat (n := n) (by omega) (by omega)
    cases hL : Lib.itoa n with
    | nil => exact absurd hL hk.1
    | cons c r =>
      have hc : isDig c := hk.2.1 c (by rw [hL]; simp)
      unfold isDig at hc
      rw [hL] at hp
      unfold Lib.parseIntB
      have n43 : ¬ c.toNat = 43 := by omega
      have n45 : ¬ c.toNat = 45 := by omega
      simp only [n43, n45, or_self, if_false, hp]
      rw [if_neg (by omega), if_neg (by simp)]
      congr 1
      omega
/-- strings.Cut at one byte, by the pieces. -/
theorem cut_one {c : UInt8} {s p : List UInt8} (h : splitA c [] s = [p]) : (Lib.cut s [c]).1 = p ∧ (Lib.cut s [c]).2.1 = [] := by
  unfold Lib.cut
  rcases Int.lt_or_le (Lib.index s [c]) 0 with h1 | h1
  · have hm : Lib.index s [c] = -1 := by have := Lib.index_ge s [c]; omega
    rw [(splitA_idx c s []).1 hm] at h
    rw [if_neg (by omega)]
    simp at h
    exact ⟨h, rfl⟩
  · obtain ⟨i, hi⟩ := Int.eq_ofNat_of_zero_le h1
    rw [(splitA_idx c s []).2 i hi] at h
    simp only [List.cons.injEq] at h
    exact absurd h.2 (splitA_ne c _ _)
theorem cut_more {c : UInt8} {s p q : List UInt8} {r : List (List UInt8)} (h : splitA c [] s = p :: q :: r) : (Lib.cut s [c]).1 = p ∧ (Lib.cut s [c]).2.1 = Lib.join (q :: r) [c] := by
  unfold Lib.cut
  rcases Int.lt_or_le (Lib.index s [c]) 0 with h1 | h1
  · have hm : Lib.index s [c] = -1 := by have := Lib.index_ge s [c]; omega
    rw [(splitA_idx c s []).1 hm] at h
    simp at h
  · obtain ⟨i, hi⟩ := Int.eq_ofNat_of_zero_le h1
    rw [(splitA_idx c s []).2 i hi] at h
    simp only [List.cons.injEq] at h
    rw [if_pos h1]
    have e : (Lib.index s [c]).toNat = i := by omega
    rw [e]
    refine ⟨by have := h.1; simpa using this, ?_⟩
    have hj := join_split c (s.drop (i + 1)) []
    rw [h.2] at hj
    rw [hj]
    simp
end Go.W

/- The text of totals, read. -/
set_option linter.unusedVariables false
set_option linter.unusedSimpArgs false
namespace Go.W
open Go Go.Sx
theorem join_parts (f : Nat → List UInt8) (c : UInt8) : ∀ (k : Nat) (x : List UInt8), Lib.join (partsF f k ++ [x]) [c] = joinT (fun i => f i ++ [c]) k ++ x
  | 0, x => by
    show Lib.join [x] [c] = _
    rw [Lib.join_one]; rfl
  | k + 1, x => by
    rw [partsF_s, join_snoc (by simp), join_parts f c k (f k), joinT]
    simp
def tLn (x : VP) : List UInt8 := Lib.itoa x.a ++ [32] ++ Lib.itoa x.b
theorem tText_join (l : List VP) (k : Nat) : tText l k = Lib.join (partsF (fun i => tLn (l.getD i zP)) k ++ [[]]) [10] := by
  rw [join_parts]
  simp only [List.append_nil]
  rfl
theorem dig_no {t : List UInt8} {c : UInt8} (h : ∀ x ∈ t, isDig x) (hc : c.toNat < 48) : c ∉ t := fun hm => by
  have := (h c hm).1
  omega
theorem itoa_no {n : Int} {c : UInt8} (h : 0 ≤ n) (hc : c.toNat < 48) : c ∉ Lib.itoa n := dig_no (itoa_ok _ n rfl h).1.2.1 hc
theorem tLn_no {x : VP} (ha : 0 ≤ x.a) (hb : 0 ≤ x.b) : (10 : UInt8) ∉ tLn x := by
  have h1 := itoa_no (c := 10) ha (by decide)
  have h2 := itoa_no (c := 10) hb (by decide)
  simp [tLn, h1, h2]
theorem tLn_split {x : VP} (ha : 0 ≤ x.a) (hb : 0 ≤ x.b) : splitA 32 [] (tLn x) = [Lib.itoa x.a, Lib.itoa x.b] := by
  have h1 := itoa_no (c := 32) ha (by decide)
  have h2 := itoa_no (c := 32) hb (by decide)
  have e : tLn x = Lib.join [Lib.itoa x.a, Lib.itoa x.b] [32] := by rw [join_cons2, Lib.join_one]; rfl
  rw [e]
  exact split_join _ (by simp) (fun y hy => by
    simp only [List.mem_cons, List.not_mem_nil, or_false] at hy
    rcases hy with rfl | rfl
    · exact h1
    · exact h2)
/-- The lines of a text of totals. -/
theorem tText_lines {l : List VP} (h : Tot l) : splitA 10 [] (tText l l.length) = partsF (fun i => tLn (l.getD i zP)) l.length ++ [[]] := by
  rw [tText_join]
  refine split_join _ (by simp) fun x hx => ?_
  rcases List.mem_append.1 hx with hx | hx
  · obtain ⟨i, hi, rfl⟩ := List.mem_map.1 hx
    have hi := List.mem_range.1 hi
    exact tLn_no (h.day i hi).1 (h.cnt i hi).1
  · rw [List.mem_singleton] at hx
    subst hx; simp
end Go.W
namespace Go.W
open Go Go.Sx
instance isDigDec (c : UInt8) : Decidable (isDig c) := by unfold isDig; infer_instance
instance numOkDec (t : List UInt8) : Decidable (numOk t) := by unfold numOk; infer_instance
/-- A number of at most B digits, as the specification reads it. -/
def numR (B : Nat) (t : List UInt8) : Int × Bool := if numOk t ∧ t.length ≤ B then ((numV t : Int), true) else (0, false)
theorem numR_itoa {B : Nat} {n : Int} (h : 0 ≤ n) (h1 : n.toNat < 10 ^ B) (hB : 1 ≤ B) : numR B (Lib.itoa n) = (n, true) := by
  obtain ⟨hk, hv⟩ := itoa_ok _ n rfl h
  have hl : (Lib.itoa n).length ≤ B := by rw [itoa_nn h, Lib.decDigits_length]; exact nDig_le B _ h1 hB
  unfold numR
  rw [if_pos ⟨hk, hl⟩, hv]
theorem numR_true {B : Nat} {t : List UInt8} (h : (numR B t).2 = true) : t = Lib.itoa (numR B t).1 ∧ 0 ≤ (numR B t).1 := by
  unfold numR at h ⊢
  split at h
  · rename_i hk
    rw [if_pos hk]
    exact ⟨(itoa_numV _ t rfl hk.1).symm, by simp⟩
  · simp at h
/-- A line of totals. -/
def lineS (l : List UInt8) : Option VP := match splitA 32 [] l with
  | [a, b] => if (numR 13 a).2 = true ∧ (numR 13 b).2 = true then some ⟨(numR 13 a).1, (numR 13 b).1⟩ else none
  | _ => none
theorem lineS_some {l : List UInt8} {x : VP} (h : lineS l = some x) : l = tLn x ∧ 0 ≤ x.a ∧ 0 ≤ x.b := by
  unfold lineS at h
  split at h
  · rename_i a b hs
    split at h
    · rename_i hab
      obtain ⟨ha, ha0⟩ := numR_true hab.1
      obtain ⟨hb, hb0⟩ := numR_true hab.2
      have hj := join_split 32 l []
      rw [hs, join_cons2, Lib.join_one, List.nil_append] at hj
      obtain rfl := Option.some.inj h
      refine ⟨?_, ha0, hb0⟩
      unfold tLn
      rw [← hj]
      rw [← ha, ← hb]
    · cases h
  · cases h
theorem lineS_tLn {x : VP} (ha : 0 ≤ x.a ∧ x.a ≤ 100000) (hb : 0 ≤ x.b ∧ x.b ≤ 1000000000000) : lineS (tLn x) = some x := by
  unfold lineS
  rw [tLn_split ha.1 hb.1]
  simp only [numR_itoa ha.1 (by omega : x.a.toNat < 10 ^ 13) (by decide), numR_itoa hb.1 (by omega : x.b.toNat < 10 ^ 13) (by decide), and_self, if_true]
/-- What the specification reads, line by line. -/
def linesS : List (List UInt8) → Option (List VP)
  | [] => some []
  | l :: r => match lineS l, linesS r with
    | some x, some xs => some (x :: xs)
    | _, _ => none
theorem linesS_some : ∀ {ls : List (List UInt8)} {xs : List VP}, linesS ls = some xs → ls = xs.map tLn
  | [], xs, h => by obtain rfl := Option.some.inj h; rfl
  | l :: r, xs, h => by
    unfold linesS at h
    split at h
    · rename_i x ys h1 h2
      obtain rfl := Option.some.inj h
      rw [(lineS_some h1).1, linesS_some h2]; rfl
    · cases h
theorem linesS_map : ∀ {xs : List VP}, (∀ x ∈ xs, (0 ≤ x.a ∧ x.a ≤ 100000) ∧ 0 ≤ x.b ∧ x.b ≤ 1000000000000) → linesS (xs.map tLn) = some xs
  | [], _ => rfl
  | x :: r, h => by
    have h1 := lineS_tLn (h x (by simp)).1 (h x (by simp)).2
    have h2 := linesS_map (xs := r) fun y hy => h y (List.mem_cons_of_mem _ hy)
    rw [List.map_cons, linesS, h1, h2]
theorem partsF_map (l : List VP) : partsF (fun i => tLn (l.getD i zP)) l.length = l.map tLn := by
  unfold partsF
  apply List.ext_getElem
  · simp
  · intro i h1 h2
    simp at h1
    simp [List.getD, h1]
/-- The list that a text tells, if it tells one. -/
def totRd (t : List UInt8) : Option (List VP) := match (splitA 10 [] t).reverse with
  | [] :: r => match linesS r.reverse with
    | some xs => if validTot xs = true then some xs else none
    | none => none
  | _ => none
theorem totRd_some {t : List UInt8} {l : List VP} (h : totRd t = some l) : validTot l = true ∧ t = tText l l.length := by
  unfold totRd at h
  split at h
  · rename_i r hr
    split at h
    · rename_i xs hx
      split at h
      · rename_i hv
        obtain rfl := Option.some.inj h
        refine ⟨hv, ?_⟩
        have h1 := linesS_some hx
        have h2 : splitA 10 [] t = r.reverse ++ [[]] := by
          have := congrArg List.reverse hr
          simpa using this
        have hj := join_split 10 t []
        rw [h2, h1, ← partsF_map, ← tText_join, List.nil_append] at hj
        exact hj.symm
      · cases h
    · cases h
  · cases h
theorem totRd_text {l : List VP} (h : validTot l = true) : totRd (tText l l.length) = some l := by
  have hT := tot h
  unfold totRd
  rw [tText_lines hT, partsF_map, List.reverse_append]
  simp only [List.reverse_cons, List.reverse_nil, List.nil_append, List.singleton_append]
  have hl : linesS (l.map tLn) = some l := linesS_map fun x hx => by
    obtain ⟨i, hi, rfl⟩ := List.getElem_of_mem hx
    have h1 := hT.day i hi
    have h2 := hT.cnt i hi
    simp only [List.getD, List.getElem?_eq_getElem hi, Option.getD_some] at h1 h2
    exact ⟨h1, h2⟩
  simp only [List.reverse_reverse, hl, h, if_true]
end Go.W

/- Digits read from their texts: digits are read iff the text is theirs. -/
set_option linter.unusedVariables false
set_option linter.unusedSimpArgs false
namespace Go.W
open Go Go.Sx
theorem parse_digitsM {M : Nat} (hM : M ≤ 2 ^ 64 - 1) : ∀ (l : List UInt8) (a : Nat), (∀ c ∈ l, isDig c) → numF a l ≤ M → Lib.parseUintM M a l = .ok (numF a l)
  | [], a, _, _ => rfl
  | c :: r, a, hd, hn => by
    have hc : isDig c := hd c (by simp)
    have e : numF a (c :: r) = numF (10 * a + (c.toNat - 48)) r := rfl
    rw [e] at hn ⊢
    have hg := numF_ge r (10 * a + (c.toNat - 48))
    unfold isDig at hc
    rw [Lib.parseUintM, if_pos hc, if_neg (by omega), if_neg (by omega), Nat.mul_comm a 10]
    exact parse_digitsM hM r _ (fun x hx => hd x (List.mem_cons_of_mem _ hx)) hn
/-- What a digit's text is. -/
theorem dgT_dig {b d : Int} (h : 0 ≤ d) : ∀ c ∈ dgT b d, isDig c := fun c hc => by
  have hk := (itoa_ok _ d rfl h).1.2.1
  unfold dgT at hc
  split at hc
  · rw [List.mem_cons] at hc
    rcases hc with rfl | hc
    · exact ⟨by decide, by decide⟩
    · exact hk c hc
  · exact hk c hc
theorem dgT_val {b d : Int} (h : 0 ≤ d) : (numV (dgT b d) : Int) = d := by
  have hv := (itoa_ok _ d rfl h).2
  unfold dgT
  split
  · show ((numV (48 :: Lib.itoa d) : Nat) : Int) = d
    have e : numV (48 :: Lib.itoa d) = numV (Lib.itoa d) := rfl
    rw [e]; exact hv
  · exact hv
theorem dgT_ne {b d : Int} : dgT b d ≠ [] := fun e => by
  have := dgT_pos b d
  rw [e] at this
  simp at this
theorem dgT_inj {b d e : Int} (h : 0 ≤ d) (h1 : 0 ≤ e) (h2 : dgT b d = dgT b e) : d = e := by
  have a := dgT_val (b := b) h
  have c := dgT_val (b := b) h1
  rw [h2, c] at a
  exact a.symm
/-- A text that ParseUint reads as a number of seven bits. -/
def U7 (t : List UInt8) (u : Int) : Prop := 0 ≤ u ∧ u ≤ 127 ∧ Lib.parseUintB 7 t = .ok u.toNat
theorem dgT_U7 {b d : Int} (h : 0 ≤ d) (h1 : d ≤ 127) : U7 (dgT b d) d := by
  refine ⟨h, h1, ?_⟩
  have hv := dgT_val (b := b) h
  unfold Lib.parseUintB
  rw [if_neg dgT_ne]
  have e : numF 0 (dgT b d) = numV (dgT b d) := rfl
  rw [parse_digitsM (by decide) _ 0 (dgT_dig h) (by rw [e]; omega), e]
  congr 1
  omega
theorem U7_one {t : List UInt8} {u v : Int} (h : U7 t u) (h1 : U7 t v) : u = v := by
  obtain ⟨a, b, c⟩ := h
  obtain ⟨d, e, f⟩ := h1
  rw [c] at f
  injection f with f
  omega
/-- No digits have this text. -/
def NoDig (s : List Int) (t : List UInt8) : Prop := ∀ d : Dig, Nums 255 d.l → validDig s d.l = true → digT s d.l ≠ t
theorem dg_no {b d : Int} {c : UInt8} (h : 0 ≤ d) (hc : c.toNat < 48 ∨ 57 < c.toNat) : c ∉ dgT b d := fun hm => by
  have := dgT_dig h c hm
  unfold isDig at this
  omega
theorem dig_parts {s : List Int} {d : List Int} (hs : Stk s) (hd : DigOk s d) : splitA 58 [] (digT s d) = partsF (dpart s d) s.length := by
  unfold digT
  refine split_join _ (by intro e; have h1 := congrArg List.length e; rw [partsF_len] at h1; have h2 := hs.len1; rw [List.length_nil] at h1; omega) fun x hx => ?_
  obtain ⟨i, hi, rfl⟩ := List.mem_map.1 hx
  have hi := List.mem_range.1 hi
  have h2 := hd (s.length - 1 - i) (by omega)
  exact dg_no h2.1 (.inr (by decide))
theorem parts_getD (f : Nat → List UInt8) {k i : Nat} (h : i < k) : (partsF f k).getD i [] = f i := by
  simp [partsF, List.getD, h]
/-- The word that a digit has. -/
theorem dig_word {s : List Int} {t : List UInt8} {d : Dig} (hs : Stk s) (hn : Nums 255 d.l) (hv : validDig s d.l = true) (ht : digT s d.l = t) {j : Nat} (hj : j < s.length) : (splitA 58 [] t).getD (s.length - 1 - j) [] = dgT (s.getD j 0) (d.l.getD j 0) ∧ 0 ≤ d.l.getD j 0 ∧ d.l.getD j 0 < s.getD j 0 ∧ s.getD j 0 ≤ 100 := by
  have hd := digOk hs.len8 hn hv
  rw [← ht, dig_parts hs hd, parts_getD _ (by omega)]
  have h2 := hd j hj
  have h3 := hs.bases j hj
  refine ⟨?_, h2.1, h2.2, h3.2⟩
  unfold dpart
  rw [show s.length - 1 - (s.length - 1 - j) = j by omega]
theorem ndg_len {s : List Int} {t : List UInt8} (hs : Stk s) (h : (splitA 58 [] t).length ≠ s.length) : NoDig s t := fun d hn hv ht => by
  rw [← ht, dig_parts hs (digOk hs.len8 hn hv), partsF_len] at h
  exact h rfl
theorem ndg_byte {s : List Int} {t : List UInt8} {j k : Nat} (hs : Stk s) (hj : j < s.length) (hk : k < ((splitA 58 [] t).getD (s.length - 1 - j) []).length) (h : ¬ isDig (((splitA 58 [] t).getD (s.length - 1 - j) []).getD k 0)) : NoDig s t := fun d hn hv ht => by
  obtain ⟨h1, h2, h3, h4⟩ := dig_word hs hn hv ht hj
  rw [h1] at hk h
  refine h (dgT_dig (b := s.getD j 0) h2 _ ?_)
  generalize dgT (s.getD j 0) (d.l.getD j 0) = x at hk ⊢
  simp [List.getD, hk]
theorem ndg_big {s : List Int} {t : List UInt8} {j : Nat} {n : Int} (hs : Stk s) (hj : j < s.length) (hn : n = (numV (((splitA 58 [] t).getD (s.length - 1 - j) []).take 3) : Int)) (h : ¬ (n < s.getD j 0 ∧ dgT (s.getD j 0) n = (splitA 58 [] t).getD (s.length - 1 - j) [])) : NoDig s t := fun d hnu hv ht => by
  obtain ⟨h1, h2, h3, h4⟩ := dig_word hs hnu hv ht hj
  have hl := dgT_le (b := s.getD j 0) h2 (by omega)
  rw [h1, List.take_of_length_le (by omega), dgT_val h2] at hn
  subst hn
  exact h ⟨h3, h1.symm⟩
theorem ndg_err {s : List Int} {t : List UInt8} {j : Nat} (hs : Stk s) (hj : j < s.length) (h : ∀ u, ¬ U7 ((splitA 58 [] t).getD (s.length - 1 - j) []) u) : NoDig s t := fun d hn hv ht => by
  obtain ⟨h1, h2, h3, h4⟩ := dig_word hs hn hv ht hj
  rw [h1] at h
  exact h _ (dgT_U7 h2 (by omega))
/-- The digits of the places below k are as told, and all others nought. -/
def DigB (s : List Int) (t : List UInt8) (d : List Int) (k : Nat) : Prop := ∀ j, j < 8 → (j < k → dgT (s.getD j 0) (d.getD j 0) = (splitA 58 [] t).getD (s.length - 1 - j) [] ∧ 0 ≤ d.getD j 0 ∧ d.getD j 0 < s.getD j 0) ∧ (k ≤ j → d.getD j 0 = 0)
theorem digB_0 (s : List Int) (t : List UInt8) : DigB s t [0, 0, 0, 0, 0, 0, 0, 0] 0 := fun j hj => ⟨fun h => by omega, fun _ => by
  rcases j with _ | _ | _ | _ | _ | _ | _ | _ | j <;> first | rfl | omega⟩
theorem digB_s {s : List Int} {t : List UInt8} {d : List Int} {k : Nat} {n : Int} (hl : d.length = 8) (hk : k < 8) (h : DigB s t d k) (h0 : 0 ≤ n) (h1 : n < s.getD k 0) (h2 : dgT (s.getD k 0) n = (splitA 58 [] t).getD (s.length - 1 - k) []) : DigB s t (d.set k n) (k + 1) := fun j hj => by
  by_cases e : j = k
  · subst e
    have e1 : (d.set j n).getD j 0 = n := by simp [List.getD, hl, hj]
    rw [e1]
    exact ⟨fun _ => ⟨h2, h0, h1⟩, fun h => by omega⟩
  · have e1 : (d.set k n).getD j 0 = d.getD j 0 := by simp [List.getD, List.getElem?_set, Ne.symm e]
    rw [e1]
    exact ⟨fun hjk => (h j hj).1 (by omega), fun hjk => (h j hj).2 (by omega)⟩
/-- Digits that are as told at all places have the text. -/
theorem digB_end {s : List Int} {t : List UInt8} {d : List Int} (hs : Stk s) (hl : (splitA 58 [] t).length = s.length) (h : DigB s t d s.length) : validDig s d = true ∧ digT s d = t := by
  have h8 := hs.len8
  constructor
  · unfold validDig
    rw [List.all_eq_true]
    intro j hj
    have hj : j < 8 := List.mem_range.1 hj
    unfold goodAt
    by_cases hjs : j < s.length
    · rw [if_pos hjs, decide_eq_true_iff]; exact ((h j hj).1 hjs).2.2
    · rw [if_neg hjs, decide_eq_true_iff]; exact (h j hj).2 (by omega)
  · have hj := join_split 58 t []
    rw [List.nil_append] at hj
    rw [← hj]
    unfold digT
    congr 1
    apply List.ext_getElem
    · rw [partsF_len, hl]
    · intro i h1 h2
      rw [partsF_len] at h1
      have h3 := ((h (s.length - 1 - i) (by omega)).1 (by omega)).1
      rw [show s.length - 1 - (s.length - 1 - i) = i by omega] at h3
      have h4 : (partsF (dpart s d) s.length)[i] = dpart s d i := by simp [partsF]
      rw [h4]
      unfold dpart
      rw [h3]
      simp [List.getD, h2]
theorem key9 {d e : Dig} {j : Nat} (h1 : d.l.getD j 0 = e.l.getD j 0) (h3 : j < d.l.length) (h4 : j < e.l.length) : d.l[j] = e.l[j] := by
  unfold List.getD at h1
  rw [List.getElem?_eq_getElem h3, List.getElem?_eq_getElem h4] at h1
  exact h1
theorem dig_one {s : List Int} {d e : Dig} (hs : Stk s) (hd : Nums 255 d.l) (he : Nums 255 e.l) (h1 : validDig s d.l = true) (h2 : validDig s e.l = true) (h : digT s d.l = digT s e.l) : d = e := by
  apply dig_inj
  apply List.ext_getElem ((dig_len _).trans (dig_len _).symm)
  intro j h30 h4
  have h3 : j < 8 := h30
  have key : d.l.getD j 0 = e.l.getD j 0 := by
    by_cases hj : j < s.length
    · obtain ⟨a1, a2, _⟩ := dig_word hs hd h1 h hj
      obtain ⟨b1, b2, _⟩ := dig_word hs he h2 rfl hj
      exact dgT_inj a2 b2 (a1.symm.trans b1)
    · have f : ∀ {x : Dig}, validDig s x.l = true → x.l.getD j 0 = 0 := fun {x} hx => by
        unfold validDig at hx
        rw [List.all_eq_true] at hx
        have := hx j (List.mem_range.2 h3)
        unfold goodAt at this
        rwa [if_neg hj, decide_eq_true_iff] at this
      rw [f h1, f h2]
  exact key9 key h30 h4
/-- The parts of the places from the top down are numbers of seven bits: the digits that the program lays. -/
def DigU (s : List Int) (t : List UInt8) (d : List Int) (k : Nat) : Prop := ∀ j, j < 8 → (s.length - k ≤ j → j < s.length → U7 ((splitA 58 [] t).getD (s.length - 1 - j) []) (d.getD j 0)) ∧ ((j < s.length - k ∨ s.length ≤ j) → d.getD j 0 = 0)
theorem digU_0 (s : List Int) (t : List UInt8) : DigU s t [0, 0, 0, 0, 0, 0, 0, 0] 0 := fun j hj => ⟨fun h => by omega, fun _ => by
  rcases j with _ | _ | _ | _ | _ | _ | _ | _ | j <;> first | rfl | omega⟩
theorem digU_s {s : List Int} {t : List UInt8} {d : List Int} {k q : Nat} {n : Int} (hl : d.length = 8) (hs : s.length ≤ 8) (hk : k < s.length) (hq : q = s.length - 1 - k) (h : DigU s t d k) (h0 : U7 ((splitA 58 [] t).getD k []) n) : DigU s t (d.set q n) (k + 1) := fun j hj => by
  subst hq
  by_cases e : j = s.length - 1 - k
  · subst e
    have e1 : (d.set (s.length - 1 - k) n).getD (s.length - 1 - k) 0 = n := by simp [List.getD, hl, hj]
    rw [e1]
    exact ⟨fun _ _ => by rw [show s.length - 1 - (s.length - 1 - k) = k by omega]; exact h0, fun h => by omega⟩
  · have e1 : (d.set (s.length - 1 - k) n).getD j 0 = d.getD j 0 := by simp [List.getD, List.getElem?_set, Ne.symm e]
    rw [e1]
    exact ⟨fun a b => (h j hj).1 (by omega) b, fun a => (h j hj).2 (by omega)⟩
/-- The program's digits do not have the text: none do. -/
theorem ndg_end {s : List Int} {t : List UInt8} {d : Dig} (hv : validStack s = true) (hd : DigU s t d.l s.length) (h : digTx s d.l ≠ t) : NoDig s t := fun e hn hve ht => by
  have hs := stk hv
  have he : d = e := by
    apply dig_inj
    apply List.ext_getElem ((dig_len _).trans (dig_len _).symm)
    intro j h30 h4
    have h3 : j < 8 := h30
    have key : d.l.getD j 0 = e.l.getD j 0 := by
      by_cases hj : j < s.length
      · obtain ⟨a1, a2, a3, a4⟩ := dig_word hs hn hve ht hj
        have := (hd j h3).1 (by omega) hj
        rw [a1] at this
        exact U7_one this (dgT_U7 a2 (by omega))
      · have := (hd j h3).2 (.inr (by omega))
        rw [this]
        unfold validDig at hve
        rw [List.all_eq_true] at hve
        have := hve j (List.mem_range.2 h3)
        unfold goodAt at this
        rw [if_neg hj, decide_eq_true_iff] at this
        exact this.symm
    exact key9 key h30 h4
  subst he
  exact h (by rw [digTx_t (by rw [hv, hve]; rfl)]; exact ht)
def dig0 : Dig := ⟨0, 0, 0, 0, 0, 0, 0, 0⟩
/-- What is read of a text: the digits, and 0; or none, and 5. -/
def DigRd (s : List Int) (t : List UInt8) (x : Dig × Int) : Prop := Nums 255 x.1.l ∧ ((x.2 = 0 ∧ validDig s x.1.l = true ∧ digT s x.1.l = t) ∨ (x.2 = 5 ∧ x.1 = dig0 ∧ NoDig s t))
theorem digRd_one {s : List Int} {t : List UInt8} {x y : Dig × Int} (hs : Stk s) (hx : DigRd s t x) (hy : DigRd s t y) : x = y := by
  obtain ⟨nx, hx⟩ := hx
  obtain ⟨ny, hy⟩ := hy
  rcases hx with ⟨a1, a2, a3⟩ | ⟨a1, a2, a3⟩
  · rcases hy with ⟨b1, b2, b3⟩ | ⟨b1, b2, b3⟩
    · exact Prod.ext (dig_one hs nx ny a2 b2 (a3.trans b3.symm)) (a1.trans b1.symm)
    · exact absurd a3 (b3 x.1 nx a2)
  · rcases hy with ⟨b1, b2, b3⟩ | ⟨b1, b2, b3⟩
    · exact absurd b3 (a3 y.1 ny b2)
    · exact Prod.ext (a2.trans b2.symm) (a1.trans b1.symm)
end Go.W

/- The text of totals, as the program reads it. -/
set_option linter.unusedVariables false
set_option linter.unusedSimpArgs false
namespace Go.W
open Go Go.Sx
theorem itoa_inj {a b : Int} (ha : -9223372036854775808 ≤ a ∧ a ≤ 9223372036854775807) (hb : -9223372036854775808 ≤ b ∧ b ≤ 9223372036854775807) (h : Lib.itoa a = Lib.itoa b) : a = b := by
  have h1 := parse_itoa ha
  have h2 := parse_itoa hb
  rw [h, h2] at h1
  injection h1 with h1
  exact h1.symm
theorem cut_tLn {x : VP} (ha : 0 ≤ x.a) (hb : 0 ≤ x.b) : (Lib.cut (tLn x) [32]).1 = Lib.itoa x.a ∧ (Lib.cut (tLn x) [32]).2.1 = Lib.itoa x.b := by
  have h := cut_more (tLn_split ha hb)
  rw [Lib.join_one] at h
  exact h
/-- The lines that a text has where it tells a list. -/
theorem rd_lines {t : List UInt8} {l : List VP} (h : totRd t = some l) : Tot l ∧ splitA 10 [] t = l.map tLn ++ [[]] := by
  obtain ⟨hv, ht⟩ := totRd_some h
  have hT := tot hv
  refine ⟨hT, ?_⟩
  rw [ht, tText_lines hT, partsF_map]
theorem rd_len {t : List UInt8} {l : List VP} (h : totRd t = some l) : (splitA 10 [] t).length = l.length + 1 := by
  rw [(rd_lines h).2]; simp
theorem rd_line {t : List UInt8} {l : List VP} (h : totRd t = some l) {i : Nat} (hi : i < l.length) : (splitA 10 [] t).getD i [] = tLn (l.getD i zP) := by
  rw [(rd_lines h).2]
  simp [List.getD, List.getElem?_append, hi]
theorem rd_last {t : List UInt8} {l : List VP} (h : totRd t = some l) : (splitA 10 [] t).getD l.length [] = [] := by
  rw [(rd_lines h).2]
  simp [List.getD, List.getElem?_append]
theorem rd_cut {t : List UInt8} {l : List VP} (h : totRd t = some l) {i : Nat} (hi : i < l.length) : (Lib.cut ((splitA 10 [] t).getD i []) [32]).1 = Lib.itoa (l.getD i zP).a ∧ (Lib.cut ((splitA 10 [] t).getD i []) [32]).2.1 = Lib.itoa (l.getD i zP).b := by
  rw [rd_line h hi]
  have hT := (rd_lines h).1
  exact cut_tLn (hT.day i hi).1 (hT.cnt i hi).1
def I64' (n : Int) : Prop := -9223372036854775808 ≤ n ∧ n ≤ 9223372036854775807
/-- A list of numbers that stand in the lines of a text. -/
def CutsOf (t : List UInt8) (l : List VP) : Prop := ∀ i, i < l.length → (I64' (l.getD i zP).a ∧ I64' (l.getD i zP).b) ∧ (Lib.cut ((splitA 10 [] t).getD i []) [32]).1 = Lib.itoa (l.getD i zP).a ∧ (Lib.cut ((splitA 10 [] t).getD i []) [32]).2.1 = Lib.itoa (l.getD i zP).b
theorem CutsOf.snoc {t : List UInt8} {l : List VP} {x : VP} (h : CutsOf t l) (hx : I64' x.a ∧ I64' x.b) (h1 : (Lib.cut ((splitA 10 [] t).getD l.length []) [32]).1 = Lib.itoa x.a) (h2 : (Lib.cut ((splitA 10 [] t).getD l.length []) [32]).2.1 = Lib.itoa x.b) : CutsOf t (l ++ [x]) := fun i hi => by
  rw [List.length_append, List.length_singleton] at hi
  by_cases he : i < l.length
  · have := h i he
    simpa [List.getD, List.getElem?_append, he] using this
  · obtain rfl : i = l.length := by omega
    have e : (l ++ [x]).getD l.length zP = x := by simp [List.getD, List.getElem?_append]
    rw [e]
    exact ⟨hx, h1, h2⟩
/-- Where all lines are numbers, the text tells their list or none. -/
theorem rd_same {t : List UInt8} {l l' : List VP} (hc : CutsOf t l) (hl : (splitA 10 [] t).length = l.length + 1) (h : totRd t = some l') : l = l' := by
  have h1 := rd_len h
  have hT := (rd_lines h).1
  have hll : l.length = l'.length := by omega
  apply List.ext_getElem hll
  intro i h2 h3
  have hx := hc i h2
  have hy := rd_cut h h3
  have d1 := hT.day i h3
  have d2 := hT.cnt i h3
  have ea := itoa_inj hx.1.1 (by omega) (hx.2.1.symm.trans hy.1)
  have eb := itoa_inj hx.1.2 (by omega) (hx.2.2.symm.trans hy.2)
  simp only [List.getD, List.getElem?_eq_getElem h2, List.getElem?_eq_getElem h3, Option.getD_some] at ea eb
  cases hl1 : l[i]
  cases hl2 : l'[i]
  rw [hl1, hl2] at ea eb
  simp only at ea eb
  rw [ea, eb]
theorem rd_ok {t : List UInt8} {l : List VP} (hv : validTot l = true) (ht : totTx l = t) : totRd t = some l := by
  rw [← ht, totTx_t hv]
  exact totRd_text hv
theorem rd_no {t : List UInt8} {l : List VP} (hc : CutsOf t l) (hl : (splitA 10 [] t).length = l.length + 1) (h : ¬ (validTot l = true ∧ totTx l = t)) : totRd t = none := by
  cases hr : totRd t with
  | none => rfl
  | some l' =>
    obtain rfl := rd_same hc hl hr
    obtain ⟨hv, ht⟩ := totRd_some hr
    exact absurd ⟨hv, by rw [totTx_t hv]; exact ht.symm⟩ h
theorem rd_bad {t : List UInt8} {k : Nat} (hk : k + 1 < (splitA 10 [] t).length) (h : ¬ ∃ a b : Int, (I64' a ∧ I64' b) ∧ (Lib.cut ((splitA 10 [] t).getD k []) [32]).1 = Lib.itoa a ∧ (Lib.cut ((splitA 10 [] t).getD k []) [32]).2.1 = Lib.itoa b) : totRd t = none := by
  cases hr : totRd t with
  | none => rfl
  | some l' =>
    exfalso
    have h1 := rd_len hr
    have hT := (rd_lines hr).1
    have hk' : k < l'.length := by omega
    have d1 := hT.day k hk'
    have d2 := hT.cnt k hk'
    exact h ⟨_, _, ⟨⟨by omega, by omega⟩, by omega, by omega⟩, rd_cut hr hk'⟩
theorem rd_60 {t : List UInt8} (h : 61 < (splitA 10 [] t).length) : totRd t = none := by
  cases hr : totRd t with
  | none => rfl
  | some l' =>
    exfalso
    have h1 := rd_len hr
    have h2 := (rd_lines hr).1.len
    omega
theorem rd_open {t : List UInt8} {n : Nat} (hn : (splitA 10 [] t).length = n + 1) (h : (splitA 10 [] t).getD n [] ≠ []) : totRd t = none := by
  cases hr : totRd t with
  | none => rfl
  | some l' =>
    exfalso
    have h1 := rd_len hr
    obtain rfl : n = l'.length := by omega
    exact h (rd_last hr)
end Go.W

/- What the loops of the readers carry on: pieces of a text, numbers, lines. -/
set_option linter.unusedVariables false
set_option linter.unusedSimpArgs false
namespace Go.W
open Go Go.Sx
/-- A text cut so far: the place, where the piece begins, the pieces, the row's room. -/
structure SpS where
  i : Nat
  b : Nat
  out : List (List UInt8)
  A : Option Addr
  c : Nat
theorem drop_getD {t : List UInt8} {i : Nat} (h : i < t.length) : t.drop i = t.getD i 0 :: t.drop (i + 1) := by
  rw [List.drop_eq_getElem_cons h]
  congr 1
  simp [List.getD, h]
theorem sp_y {c : UInt8} {t : List UInt8} {i b : Nat} {out : List (List UInt8)} (hi : i < t.length) (h : t.getD i 0 = c) (H : splitA c [] t = out ++ splitA c ((t.drop b).take (i - b)) (t.drop i)) : splitA c [] t = (out ++ [(t.drop b).take (i - b)]) ++ splitA c ((t.drop (i + 1)).take (i + 1 - (i + 1))) (t.drop (i + 1)) := by
  rw [H, drop_getD hi, splitA_y h, Nat.sub_self, List.take_zero, List.append_assoc]
  rfl
theorem take_snoc {t : List UInt8} {i b : Nat} (hb : b ≤ i) (hi : i < t.length) : (t.drop b).take (i + 1 - b) = (t.drop b).take (i - b) ++ [t.getD i 0] := by
  rw [show i + 1 - b = (i - b) + 1 by omega, List.take_succ_eq_append_getElem (by rw [List.length_drop]; omega)]
  congr 2
  simp [List.getD, hi, show b + (i - b) = i by omega]
theorem sp_n {c : UInt8} {t : List UInt8} {i b : Nat} {out : List (List UInt8)} (hb : b ≤ i) (hi : i < t.length) (h : ¬ t.getD i 0 = c) (H : splitA c [] t = out ++ splitA c ((t.drop b).take (i - b)) (t.drop i)) : splitA c [] t = out ++ splitA c ((t.drop b).take (i + 1 - b)) (t.drop (i + 1)) := by
  rw [H, drop_getD hi, splitA_n h, take_snoc hb hi]
theorem sp_end {c : UInt8} {t : List UInt8} {i b : Nat} {out : List (List UInt8)} (hb : b ≤ i) (hi : i = t.length) (H : splitA c [] t = out ++ splitA c ((t.drop b).take (i - b)) (t.drop i)) : splitA c [] t = out ++ [t.drop b] := by
  subst hi
  rw [H, List.drop_length, splitA_nil, List.take_of_length_le (by rw [List.length_drop]; omega)]
theorem splitA_len (c : UInt8) : ∀ (t acc : List UInt8), (splitA c acc t).length ≤ t.length + 1
  | [], acc => by simp [splitA]
  | x :: r, acc => by
    unfold splitA
    split
    · have := splitA_len c r []
      simp only [List.length_cons]; omega
    · have := splitA_len c r (acc ++ [x])
      simp only [List.length_cons]; omega
theorem splitA_pos (c : UInt8) (t : List UInt8) : 1 ≤ (splitA c [] t).length := by
  cases h : splitA c [] t with
  | nil => exact absurd h (splitA_ne c t [])
  | cons a r => simp
theorem piece_mem (c : UInt8) : ∀ (t acc p : List UInt8), p ∈ splitA c acc t → p.length ≤ acc.length + t.length
  | [], acc, p, h => by rw [splitA_nil, List.mem_singleton] at h; subst h; simp
  | x :: r, acc, p, h => by
    unfold splitA at h
    split at h
    · rw [List.mem_cons] at h
      rcases h with rfl | h
      · omega
      · have := piece_mem c r [] p h
        simp only [List.length_nil, List.length_cons] at *; omega
    · have := piece_mem c r _ p h
      simp only [List.length_append, List.length_cons, List.length_nil] at *; omega
theorem getD_memT {s : List (List UInt8)} {i : Nat} (h : i < s.length) : s.getD i [] ∈ s := by
  rw [List.getD, List.getElem?_eq_getElem h]
  exact List.getElem_mem h
/-- A piece is no longer than the text. -/
theorem piece_le (c : UInt8) (t : List UInt8) (i : Nat) : ((splitA c [] t).getD i []).length ≤ t.length := by
  by_cases h : i < (splitA c [] t).length
  · have := piece_mem c t [] _ (getD_memT (s := splitA c [] t) h)
    simp only [List.length_nil] at this
    omega
  · simp [List.getD, List.getElem?_eq_none (by omega : (splitA c [] t).length ≤ i)]
theorem cut_le (s : List UInt8) (c : UInt8) : (Lib.cut s [c]).1.length ≤ s.length ∧ (Lib.cut s [c]).2.1.length ≤ s.length := by
  unfold Lib.cut
  split
  · simp only [List.length_take, List.length_drop]; omega
  · simp
/-! ### A number, byte by byte -/
theorem numV_lt : ∀ (k : Nat) (t : List UInt8), t.length = k → (∀ c ∈ t, isDig c) → numV t < 10 ^ k
  | 0, t, hk, _ => by obtain rfl := List.eq_nil_of_length_eq_zero hk; decide
  | k + 1, t, hk, h => by
    have hne : t ≠ [] := fun e => by subst e; simp at hk
    obtain ⟨u, c, rfl⟩ : ∃ u c, t = u ++ [c] := ⟨t.dropLast, t.getLast hne, (List.dropLast_concat_getLast hne).symm⟩
    have hc : isDig c := h c (by simp)
    have hul : u.length = k := by simpa using hk
    have ih := numV_lt k u hul (fun x hx => h x (List.mem_append_left _ hx))
    unfold isDig at hc
    rw [numV_snoc, Nat.pow_succ]
    omega
theorem digs_take {t : List UInt8} {k : Nat} (h : ∀ j, j < k → isDig (t.getD j 0)) (hk : k ≤ t.length) : ∀ c ∈ t.take k, isDig c := fun c hc => by
  obtain ⟨j, hj, rfl⟩ := List.getElem_of_mem hc
  have hj' : j < k := by rw [List.length_take] at hj; omega
  have := h j hj'
  simpa [List.getD, show j < t.length by omega] using this
theorem numT_le {t : List UInt8} {k : Nat} (h : ∀ j, j < k → isDig (t.getD j 0)) (hk : k ≤ t.length) (h12 : k ≤ 12) : numV (t.take k) ≤ 1000000000000 := by
  have h1 := numV_lt k (t.take k) (by rw [List.length_take]; omega) (digs_take h hk)
  have h2 : 10 ^ k ≤ 10 ^ 12 := Nat.pow_le_pow_right (by decide) h12
  have h3 : (10 : Nat) ^ 12 = 1000000000000 := by decide
  omega
theorem numT_s {t : List UInt8} {k : Nat} (hk : k < t.length) : numV (t.take (k + 1)) = 10 * numV (t.take k) + ((t.getD k 0).toNat - 48) := by
  rw [List.take_succ_eq_append_getElem hk, numV_snoc]
  simp [List.getD, hk]
theorem isDig_of {c : UInt8} (h : ¬ ((c.toNat : Int) < 48)) (h1 : ¬ ((c.toNat : Int) > 57)) : isDig c := ⟨by omega, by omega⟩
theorem numR_bad {B : Nat} {t : List UInt8} (h : t = [] ∨ B < t.length ∨ (t.getD 0 0 = 48 ∧ 1 < t.length) ∨ ∃ k, k < t.length ∧ ¬ isDig (t.getD k 0)) : numR B t = (0, false) := by
  unfold numR
  refine if_neg fun hk => ?_
  rcases h with h | h | ⟨h, h1⟩ | ⟨k, h, h1⟩
  · exact hk.1.1 h
  · omega
  · rcases hk.1.2.2 with h2 | h2
    · omega
    · exact h2 h
  · exact h1 (hk.1.2.1 _ (by simp [List.getD, h]))
theorem numR_ok {B : Nat} {t : List UInt8} (h : ¬ t = []) (hB : ¬ (B : Int) < t.length) (h0 : ¬ (t.getD 0 0 = 48 ∧ 1 < t.length)) (hd : ∀ j, j < t.length → isDig (t.getD j 0)) : numR B t = ((numV (t.take t.length) : Int), true) := by
  unfold numR
  rw [List.take_length]
  refine if_pos ⟨⟨h, ?_, ?_⟩, by omega⟩
  · have := digs_take hd (Nat.le_refl _)
    rwa [List.take_length] at this
  · have : t.length ≠ 0 := fun e => h (List.eq_nil_of_length_eq_zero e)
    by_cases h1 : t.length = 1
    · exact .inl h1
    · exact .inr fun e => h0 ⟨e, by omega⟩
theorem numR_bd (B : Nat) (t : List UInt8) (hB : B ≤ 13) : 0 ≤ (numR B t).1 ∧ (numR B t).1 ≤ 10000000000000 := by
  unfold numR
  split
  · rename_i h
    have h1 := numV_lt _ t rfl h.1.2.1
    have h2 : 10 ^ t.length ≤ 10 ^ 13 := Nat.pow_le_pow_right (by decide) (by omega)
    have h3 : (10 : Nat) ^ 13 = 10000000000000 := by decide
    simp only
    omega
  · simp
theorem u8_48 {c : UInt8} (h : (c.toNat : Int) = 48) : c = 48 := UInt8.toNat_inj.1 (by show c.toNat = 48; omega)
theorem u8_48n {c : UInt8} (h : ¬ (c.toNat : Int) = 48) : ¬ c = 48 := fun e => h (by rw [e]; rfl)
theorem u8_c {c d : UInt8} {b : Int} (hb : b = (d.toNat : Int)) (h : (c.toNat : Int) = b) : c = d := UInt8.toNat_inj.1 (by omega)
theorem u8_cn {c d : UInt8} {b : Int} (hb : b = (d.toNat : Int)) (h : ¬ (c.toNat : Int) = b) : ¬ c = d := fun e => h (by rw [e, hb])
/-! ### What is read -/
/-- A list that is read, a code, the row's room. -/
structure RdS (α : Type) where
  l : List α
  code : Int
  A : Option Addr
  cap : Nat
/-- The rounds of a reader of lines: the list so far, whether all is well. -/
structure TtS (α : Type) where
  k : Nat
  l : List α
  ok : Bool
  A : Option Addr
  cap : Nat
def TotRd (t : List UInt8) (x : RdS VP) : Prop := (x.code = 0 ∧ totRd t = some x.l) ∨ (x.code = 5 ∧ x.l = [] ∧ totRd t = none)
theorem tot_one {t : List UInt8} {x y : RdS VP} (hx : TotRd t x) (hy : TotRd t y) : x.l = y.l ∧ x.code = y.code := by
  rcases hx with ⟨a1, a2⟩ | ⟨a1, a2, a3⟩ <;> rcases hy with ⟨b1, b2⟩ | ⟨b1, b2, b3⟩
  · rw [a2] at b2; exact ⟨Option.some.inj b2, a1.trans b1.symm⟩
  · rw [a2] at b3; cases b3
  · rw [a3] at b2; cases b2
  · exact ⟨a2.trans b2.symm, a1.trans b1.symm⟩
theorem tot_len {t : List UInt8} {x : RdS VP} (h : TotRd t x) : x.l.length ≤ 60 := by
  rcases h with ⟨_, h⟩ | ⟨_, h, _⟩
  · exact (rd_lines h).1.len
  · rw [h]; simp
def LinesTo (t : List UInt8) (l : List VP) (k : Nat) : Prop := l.length = k ∧ ∀ j, j < k → lineS ((splitA 10 [] t).getD j []) = some (l.getD j zP)
theorem LinesTo.nil (t : List UInt8) : LinesTo t [] 0 := ⟨rfl, fun j hj => by omega⟩
theorem LinesTo.snoc {t : List UInt8} {l : List VP} {k : Nat} {x : VP} (h : LinesTo t l k) (hx : lineS ((splitA 10 [] t).getD k []) = some x) : LinesTo t (l ++ [x]) (k + 1) := by
  obtain ⟨rfl, h⟩ := h
  refine ⟨by simp, fun j hj => ?_⟩
  by_cases he : j < l.length
  · have := h j he
    simpa [List.getD, List.getElem?_append, he] using this
  · obtain rfl : j = l.length := by omega
    have e : (l ++ [x]).getD l.length zP = x := by simp [List.getD, List.getElem?_append]
    rw [e]; exact hx
theorem linesS_all : ∀ {ls : List (List UInt8)} {xs : List VP}, ls.length = xs.length → (∀ j, j < xs.length → lineS (ls.getD j []) = some (xs.getD j zP)) → linesS ls = some xs
  | [], [], _, _ => rfl
  | [], _ :: _, h, _ => by simp at h
  | _ :: _, [], h, _ => by simp at h
  | l :: r, x :: xs, h, h1 => by
    have h2 := h1 0 (by simp)
    have h3 := linesS_all (ls := r) (xs := xs) (by simpa using h) (fun j hj => by
      have := h1 (j + 1) (by simpa using hj)
      simpa using this)
    simp only [List.getD_cons_zero] at h2
    unfold linesS
    rw [h2, h3]
theorem linesS_get : ∀ {ls : List (List UInt8)} {xs : List VP}, linesS ls = some xs → ∀ j, j < ls.length → lineS (ls.getD j []) ≠ none
  | [], _, _, j, hj => by simp at hj
  | l :: r, xs, h, j, hj => by
    unfold linesS at h
    split at h
    · rename_i x ys h1 h2
      rcases j with _ | j
      · simp [h1]
      · have := linesS_get h2 j (by simpa using hj)
        simpa using this
    · cases h
theorem tr_form {t : List UInt8} {n : Nat} (hn : (splitA 10 [] t).length = n + 1) (h0 : (splitA 10 [] t).getD n [] = []) : totRd t = match linesS ((splitA 10 [] t).take n) with
    | some xs => if validTot xs = true then some xs else none
    | none => none := by
  have e : splitA 10 [] t = (splitA 10 [] t).take n ++ [[]] := by
    have h1 : (splitA 10 [] t).take (n + 1) = splitA 10 [] t := List.take_of_length_le (by omega)
    rw [List.take_succ_eq_append_getElem (by omega)] at h1
    have h2 : (splitA 10 [] t)[n] = [] := by
      have := h0
      simpa [List.getD, show n < (splitA 10 [] t).length by omega] using this
    rw [h2] at h1
    exact h1.symm
  unfold totRd
  have e2 : (splitA 10 [] t).reverse = [] :: ((splitA 10 [] t).take n).reverse := by
    have := congrArg List.reverse e
    rw [List.reverse_append] at this
    simpa using this
  rw [e2]
  simp only [List.reverse_reverse]
  try rfl
theorem tr_yes {t : List UInt8} {l : List VP} {n : Nat} (hn : (splitA 10 [] t).length = n + 1) (h0 : (splitA 10 [] t).getD n [] = []) (h : LinesTo t l n) : totRd t = if validTot l = true then some l else none := by
  have e := tr_form hn h0
  rw [linesS_all (xs := l) (by rw [List.length_take, h.1]; omega) (fun j hj => by
    have := h.2 j (by rw [← h.1]; exact hj)
    have hjn : j < n := by rw [← h.1]; exact hj
    rw [← this]
    simp [List.getD, List.getElem?_take, hjn])] at e
  exact e
theorem tr_line {t : List UInt8} {j : Nat} (hj : j + 1 < (splitA 10 [] t).length) (h : lineS ((splitA 10 [] t).getD j []) = none) : totRd t = none := by
  obtain ⟨n, hn⟩ : ∃ n, (splitA 10 [] t).length = n + 1 := ⟨(splitA 10 [] t).length - 1, by omega⟩
  by_cases h0 : (splitA 10 [] t).getD n [] = []
  · rw [tr_form hn h0]
    cases hl : linesS ((splitA 10 [] t).take n) with
    | none => rfl
    | some xs =>
      exfalso
      have := linesS_get hl j (by rw [List.length_take]; omega)
      apply this
      rw [← h]
      simp [List.getD, List.getElem?_take, show j < n by omega]
  · exact rd_open hn h0
theorem line_2 {s : List UInt8} (h : (splitA 32 [] s).length ≠ 2) : lineS s = none := by
  unfold lineS
  split
  · rename_i a b e
    rw [e] at h
    simp at h
  · rfl
theorem line_y {s : List UInt8} (h : (splitA 32 [] s).length = 2) : lineS s = if (numR 13 ((splitA 32 [] s).getD 0 [])).2 = true ∧ (numR 13 ((splitA 32 [] s).getD 1 [])).2 = true then some ⟨(numR 13 ((splitA 32 [] s).getD 0 [])).1, (numR 13 ((splitA 32 [] s).getD 1 [])).1⟩ else none := by
  unfold lineS
  rcases hs : splitA 32 [] s with _ | ⟨a, _ | ⟨b, _ | ⟨c, r⟩⟩⟩
  · rw [hs] at h; simp at h
  · rw [hs] at h; simp at h
  · rfl
  · rw [hs] at h; simp at h
end Go.W
namespace Go.W
open Go Go.Sx
/-! ### Numbers, as the program reads them -/
/-- What ParseInt makes of a text. -/
def PInt (t : List UInt8) (n : Int) (b : Bool) : Prop := I64' n ∧ (b = true → Lib.parseIntB 64 t = .ok n) ∧ (∀ z, Lib.parseIntB 64 t = .ok z → b = true ∧ n = z) ∧ (t = [] → n = 0)
/-- A number that is read iff the text is its own. -/
def RDec (t : List UInt8) (x : Int × Bool) : Prop := I64' x.1 ∧ (x.2 = true → t = Lib.itoa x.1) ∧ (∀ z, I64' z → t = Lib.itoa z → x.2 = true ∧ x.1 = z) ∧ (t = [] → x.1 = 0)
theorem rdec_t {t : List UInt8} {n : Int} {b : Bool} (h : PInt t n b) (hb : b = true) : RDec t (n, decide (Lib.itoa n = t)) := by
  obtain ⟨h1, h2, h3, h4⟩ := h
  refine ⟨h1, fun h => (of_decide_eq_true h).symm, fun z hz e => ?_, h4⟩
  subst e
  obtain ⟨_, e2⟩ := h3 z (parse_itoa hz)
  exact ⟨decide_eq_true (by rw [e2]), e2⟩
theorem rdec_f {t : List UInt8} {n : Int} {b : Bool} (h : PInt t n b) (hb : b = false) : RDec t (n, false) := by
  obtain ⟨h1, h2, h3, h4⟩ := h
  refine ⟨h1, ?_, fun z hz e => ?_, h4⟩
  · intro h; exact absurd h (by simp)
  subst e
  have := (h3 z (parse_itoa hz)).1
  rw [hb] at this
  cases this
theorem parse_bd {t : List UInt8} {v : Int} (h : Lib.parseIntB 64 t = .ok v) : I64' v := by
  unfold I64'
  cases t with
  | nil => cases h
  | cons c r =>
    unfold Lib.parseIntB at h
    simp only at h
    split at h
    · cases h
    · cases h
    · rename_i u hu
      split at h
      · cases h
      · rename_i h1
        split at h
        · cases h
        · rename_i h2
          injection h with h
          subst h
          by_cases h3 : c.toNat = 45
          · simp [h3] at h1 h2 ⊢; omega
          · simp [h3] at h1 h2 ⊢; omega
theorem sat_bd (t : List UInt8) : I64' (Lib.intSat 64 t) := by
  unfold Lib.intSat I64'
  split <;> simp
theorem pint_ok {t : List UInt8} {v : Int} (h : Lib.parseIntB 64 t = .ok v) : PInt t v true := ⟨parse_bd h, fun _ => h, fun z hz => ⟨rfl, by rw [h] at hz; injection hz⟩, fun e => by subst e; cases h⟩
theorem pint_syn {t : List UInt8} (h : ∀ z, Lib.parseIntB 64 t ≠ .ok z) : PInt t 0 false := by
  refine ⟨⟨by decide, by decide⟩, ?_, fun z hz => ?_, fun _ => rfl⟩
  · intro e; exact absurd e (by simp)
  · exact absurd hz (h z)
theorem pint_rng {t : List UInt8} (h : Lib.parseIntB 64 t = .range) : PInt t (Lib.intSat 64 t) false := by
  refine ⟨sat_bd t, ?_, fun z hz => ?_, fun e => by subst e; cases h⟩
  · intro e; exact absurd e (by simp)
  · rw [h] at hz; cases hz
/-- A line whose numbers are not both numbers' own texts. -/
theorem rd_line_no {t : List UInt8} {k : Nat} {x y : Int × Bool} (hk : k + 1 < (splitA 10 [] t).length) (hx : RDec (Lib.cut ((splitA 10 [] t).getD k []) [32]).1 x) (hy : RDec (Lib.cut ((splitA 10 [] t).getD k []) [32]).2.1 y) (h : x.2 = false ∨ y.2 = false) : totRd t = none := by
  refine rd_bad hk ?_
  rintro ⟨a, b, ⟨ha, hb⟩, h1, h2⟩
  have e1 := (hx.2.2.1 a ha h1).1
  have e2 := (hy.2.2.1 b hb h2).1
  rcases h with h | h
  · rw [h] at e1; cases e1
  · rw [h] at e2; cases e2
end Go.W

/- A byte of a string; pieces of a string. -/
set_option linter.unusedVariables false
set_option linter.unusedSimpArgs false
namespace Go.Sx
open Go Go.RowKit
variable {C : Cx} {env env' : Env} {m m' : List Ent} {o : Oper} {K : Env → List Ent → Prop}
theorem fr_indexS {S x y k} {l : List UInt8} {i : Int} (j : Nat) (ho : o.op = .index S x y) (hx : ev env x = some (sv l)) (hy : ev env y = some (.int k i)) (hS : C.P.underlying S = some .string) (hi : i = (j : Nat)) (hj : j < l.length) : Free C o env m (.int .u8 ((l.getD j 0).toNat : Int)) := by
  subst hi
  intro a w hr hw
  have h := run_index_string (P := C.P) w S ⟨l.toArray⟩ k (j : Int) hS
  rw [dif_pos ⟨by omega, by rw [sv_size]; omega⟩] at h
  have e : (⟨l.toArray⟩ : ByteArray)[((j : Nat) : Int).toNat]'(by rw [sv_size]; simpa using hj) = l.getD j 0 := by
    simp [List.getD, hj]
    rfl
  rw [e] at h
  simp only [execOp, ho, hr.ev hx, hr.ev hy, Sem.run_bind, h, Result.andThen_ok, Sem.run_pure]
theorem fr_sliceS {S x y z k k'} {l : List UInt8} {p q : Int} (a b : Nat) (ho : o.op = .slice S x (some y) (some z) none) (hx : ev env x = some (sv l)) (hy : ev env y = some (.int k p)) (hz : ev env z = some (.int k' q)) (hS : C.P.underlying S = some .string) (hp : p = (a : Nat)) (hq : q = (b : Nat)) (hab : a ≤ b) (hb : b ≤ l.length) : Free C o env m (sv ((l.drop a).take (b - a))) := by
  subst hp hq
  intro ac w hr hw
  have h := run_slice_string (P := C.P) w S ⟨l.toArray⟩ k k' (a : Int) (b : Int) hS (by omega) (by omega) (by rw [sv_size]; omega)
  rw [ByteArray.extract_mk] at h
  simp only [Int.toNat_natCast] at h
  simp only [execOp, ho, hr.ev hx, Option.map_none, Option.map_some, hr.ev hy, hr.ev hz, run_sliceAt_string w S _ _ _ _ hS, Sem.run_bind, h, Result.andThen_ok, Sem.run_pure]
theorem fr_sliceS_l {S x y k} {l : List UInt8} {p : Int} (a : Nat) (ho : o.op = .slice S x (some y) none none) (hx : ev env x = some (sv l)) (hy : ev env y = some (.int k p)) (hS : C.P.underlying S = some .string) (hp : p = (a : Nat)) (hb : a ≤ l.length) : Free C o env m (sv (l.drop a)) := by
  subst hp
  intro ac w hr hw
  have h := run_slice_string_from_if (P := C.P) w S ⟨l.toArray⟩ k (a : Int) hS
  rw [if_pos ⟨by omega, by rw [sv_size]; omega⟩, ByteArray.extract_mk, sv_size] at h
  simp only [Int.toNat_natCast] at h
  rw [List.take_of_length_le (by rw [List.length_drop]; omega)] at h
  simp only [execOp, ho, hr.ev hx, Option.map_none, Option.map_some, hr.ev hy, run_sliceAt_string w S _ _ _ _ hS, Sem.run_bind, h, Result.andThen_ok, Sem.run_pure]
end Go.Sx

/- The library's variables that a reader of texts meets; errors compared with nil; the library's Split, Cut and ParseInt, as our contracts say them; what is laid and the shape, both handed on. -/
set_option linter.unusedVariables false
set_option linter.unusedSimpArgs false
namespace Go.Sx
open Go Go.RowKit
variable {C : Cx} {env env' : Env} {m m' : List Ent} {o : Oper} {K : Env → List Ent → Prop}
/-- The three variables of the library that a reader of texts meets. -/
structure RdO (gm gs gr : Nat) (w : World) : Prop where
  max : ∃ m, w.cell? ⟨gm, 0, none⟩ = some (.int .i64 m)
  syn : ∃ v, w.cell? ⟨gs, 0, none⟩ = some v ∧ (v = .nilIface ∨ ∃ te pe, v = .iface te pe)
  rng : ∃ v, w.cell? ⟨gr, 0, none⟩ = some v ∧ (v = .nilIface ∨ ∃ te pe, v = .iface te pe)
theorem cell_below {w w' : World} {g : Nat} {v : Value} (hb : Below w.heap.size w w') (h : w.cell? ⟨g, 0, none⟩ = some v) : w'.cell? ⟨g, 0, none⟩ = some v :=
  (hb.cell (p := ⟨g, 0, none⟩) (World.block_lt_of_cell? _ _ h)).trans h
theorem RdO.below {a b c w w'} (h : RdO a b c w) (hb : Below w.heap.size w w') : RdO a b c w' :=
  ⟨h.max.imp fun _ h => cell_below hb h, h.syn.imp fun _ h => ⟨cell_below hb h.1, h.2⟩, h.rng.imp fun _ h => ⟨cell_below hb h.1, h.2⟩⟩
theorem RdO.keep {a b c w0 m w} (h : RdO a b c w0) (hh : Holds w0.heap.size w0 m w) : RdO a b c w := h.below hh.below
/-- An error: nil, or something. -/
def errV (b : Bool) (t : TypeId) (v : Value) : Value := if b then .nilIface else .iface t v
theorem errV_eq (b : Bool) (t : TypeId) (v : Value) {T : TypeId} {P : Program} {w : World} (h : P.isIface T = true) : (Op.equal T (errV b t v) .nilIface).run P w = .ok b w := by
  cases b
  · exact run_equalIn_iface_nil w 9999 T h t v
  · exact run_equalIn_nil_nil_at w 9999 T h
theorem fr_eql_err {T x c T' b t v ms} (ho : o.op = .binOp .eql T x (.const c) T') (hx : ev env x = some (errV b t v)) (hy : ev env (.const c) = some .nilIface) (hT : C.P.underlying T = some (.interface ms)) : Free C o env m (.bool b) := by
  intro a w hr _
  have hi : C.P.isIface T = true := by simp [Program.isIface, hT]
  have h : (binOp .eql T (errV b t v) .nilIface).run C.P w = .ok (.bool b) w := by
    have e : binOp .eql T (errV b t v) .nilIface = (do pure (.bool (← Op.equal T (errV b t v) .nilIface))) := by cases b <;> rfl
    rw [e]
    simp only [Sem.run_bind, errV_eq b t v hi, Result.andThen_ok, Sem.run_pure]
  have hg : (eqGuard .eql T x (.const c) (errV b t v) .nilIface).run C.P w = .ok () w := by
    cases b
    · show (eqGuard .eql T x (.const c) (.iface t v) .nilIface).run C.P w = _
      rw [eqGuard_at_iface]; rfl
    · show (eqGuard .eql T x (.const c) .nilIface .nilIface).run C.P w = _
      rw [eqGuard_nil_constR]; rfl
  simp only [execOp, ho, hr.ev hx, hr.ev hy, Sem.run_bind, hg, Result.andThen_ok, h]; rfl
theorem fr_neq_err {T x c T' b t v ms} (ho : o.op = .binOp .neq T x (.const c) T') (hx : ev env x = some (errV b t v)) (hy : ev env (.const c) = some .nilIface) (hT : C.P.underlying T = some (.interface ms)) : Free C o env m (.bool (!b)) := by
  intro a w hr _
  have hi : C.P.isIface T = true := by simp [Program.isIface, hT]
  have h : (binOp .neq T (errV b t v) .nilIface).run C.P w = .ok (.bool (!b)) w := by
    have e : binOp .neq T (errV b t v) .nilIface = (do pure (.bool (!(← Op.equal T (errV b t v) .nilIface)))) := by cases b <;> rfl
    rw [e]
    simp only [Sem.run_bind, errV_eq b t v hi, Result.andThen_ok, Sem.run_pure]
  have hg : (eqGuard .neq T x (.const c) (errV b t v) .nilIface).run C.P w = .ok () w := by
    cases b
    · show (eqGuard .neq T x (.const c) (.iface t v) .nilIface).run C.P w = _
      rw [eqGuard_at_iface]; rfl
    · show (eqGuard .neq T x (.const c) .nilIface .nilIface).run C.P w = _
      rw [eqGuard_nil_constR]; rfl
  simp only [execOp, ho, hr.ev hx, hr.ev hy, Sem.run_bind, hg, Result.andThen_ok, h]; rfl
/-- The pieces that the library's Split lays are a row of ours. -/
theorem splitB_pieces (c : UInt8) (t : List UInt8) : (Lib.splitB (mkB [c]) 0 (Lib.countB (mkB t) (mkB [c])) (mkB t)).map (·.data.toList) = W.splitA c [] t := by
  rw [Lib.splitB_data]
  exact W.split_eq c t
theorem split_row {w : World} {T : TypeId} (c : UInt8) (t : List UInt8) (hl : t.length ≤ 281474976710656) :
    (Value.slice (some ⟨w.heap.size, 0, none⟩) (Lib.countB (mkB t) (mkB [c]) + 1) (Lib.countB (mkB t) (mkB [c]) + 1) = Value.slice (some ⟨w.heap.size, 0, none⟩) (W.splitA c [] t).length (W.splitA c [] t).length) ∧
    Ent.holds w.heap.size (w.alloc (.cells ((Lib.splitB (mkB [c]) 0 (Lib.countB (mkB t) (mkB [c])) (mkB t)).map Value.string).toArray T)) (.row (.slice (some ⟨w.heap.size, 0, none⟩) (W.splitA c [] t).length (W.splitA c [] t).length) T 1 (W.splitA c [] t).length ((W.splitA c [] t).flatMap eSt)) := by
  have hp := splitB_pieces c t
  have hlen : Lib.countB (mkB t) (mkB [c]) + 1 = (W.splitA c [] t).length := by
    rw [← hp, List.length_map, Lib.splitB_all (mkB [c]) (by show 1 ≤ 1; decide) 0 _ (mkB t) rfl]
  have hlt := Lib.countB_le (mkB [c]) (by show 1 ≤ 1; decide) (mkB t).size (mkB t) (Nat.le_refl _)
  have hsz : (mkB t).size = t.length := by simp [mkB, ByteArray.size]
  have hcells : (Lib.splitB (mkB [c]) 0 (Lib.countB (mkB t) (mkB [c])) (mkB t)).map Value.string = (W.splitA c [] t).flatMap eSt := by
    rw [← hp]
    generalize Lib.splitB (mkB [c]) 0 (Lib.countB (mkB t) (mkB [c])) (mkB t) = bs
    induction bs with
    | nil => rfl
    | cons b r ih => rw [List.map_cons, ih]; rfl
  refine ⟨by rw [hlen], ?_, .inr ⟨w.heap.size, _, ((Lib.splitB (mkB [c]) 0 (Lib.countB (mkB t) (mkB [c])) (mkB t)).map Value.string).toArray, rfl, Nat.le_refl _, ?_, Nat.le_refl _, ?_, ?_, ?_⟩⟩
  · rw [flat_len eSt_len, Nat.mul_one]
  · show (w.heap.push _)[w.heap.size]? = _
    simp
  · rw [← hlen]; unfold maxLen; omega
  · rw [List.size_toArray, hcells, flat_len eSt_len]
  · rw [hcells, Nat.mul_one]
    exact List.take_of_length_le (by rw [List.toList_toArray, flat_len eSt_len]; omega)
theorem below_alloc (w : World) (o : Obj) : Below w.heap.size w (w.alloc o) := ⟨rfl, rfl, rfl, by show w.heap.size ≤ (w.heap.push o).size; rw [Array.size_push]; omega, fun j hj => by
  show (w.heap.push o)[j]? = _
  rw [Array.getElem?_push, if_neg (by omega)]⟩
theorem fr_subZ {T x y T' p q} (ho : o.op = .binOp .sub T x y T') (hx : ev env x = some (.int .u8 p)) (hy : ev env y = some (.int .u8 q)) (h : 0 ≤ p - q ∧ p - q ≤ 255) : Free C o env m (.int .u8 (p - q)) := by
  have := fr_sub (C := C) (m := m) ho hx hy
  rwa [IntWalk.u8_in _ h] at this
theorem below_drew (w : World) (k : Nat) : Below w.heap.size w (w.drewN k) := ⟨rfl, rfl, rfl, Nat.le_refl _, fun _ _ => rfl⟩
end Go.Sx
namespace Go
variable {H : Type} {enc : TypeId × Value → H}
/-- What is laid and the world's shape, both handed on. -/
theorem handed_and_shaped {a : Assume} {C : Checked} {os : Os} {f : FuncId} {fn : Func} {s : ChangeSpec} {conds : List PathCond} {apart fresh handsOn again : Bool} {X : World → Array Value → Prop}
    (hX : ∀ (w w' : World) (args : Array Value), w.heap = w'.heap → X w args → X w' args)
    (own : ownKnob C.prog.godebug = none) (started : os.Started) (noInit : C.prog.inits.idxOf? f = none) (hfn : C.prog.funcs[f]? = some fn)
    (witness : ∃ (w : World) (tape : Tape) (i : Input), w.os = os ∧ (w.forCall tape i).Shaped C.prog ∧ i.vars = [] ∧ Input.okWide C.prog (w.forCall tape i) .any w.heap.size f i ∧
      ((s.pre enc C.prog fn conds apart (w.forCall tape i).memory i.args ∧ X (w.forCall tape i).memory i.args) ∧ sizedMet enc C.prog fn (OpenSpec.ofChange s) apart (w.forCall tape i).memory i.args) ∧ a.holds C.prog (lone (Frame.enter C.prog f i.args .normal) [] (w.forCall tape i)))
    (contract : ∀ (W : World) (base : Nat) (args : Array Value) (ds gs : List (DataW H)) (before : List MemPlace),
      (∀ (j : Nat) t v, fn.params[j]? = some t → args[j]? = some v → Value.okWide C.prog W .any base t v) →
      DataW.Whole enc C.prog fn.params.toList s.vars apart W args.toList ds gs before →
      conds.all (PathCond.test C.prog ⟨fn.params.toList, ds, s.plain.varTypes C.prog, gs⟩) = true →
      (DataW.weightsEach C.prog (fn.params.toList ++ s.plain.varTypes C.prog) (ds ++ gs)).all (· ≤ reachBytes) = true → X W args → W.ShapedOpen C.prog →
      a.holds C.prog (lone (Frame.enter C.prog f args .normal) [] W) →
      Calls C.prog f args W fun e W' => ∃ v, e = .returned v ∧ s.post enc C.prog fn apart fresh handsOn again W args v W') :
    ReturnsInHanded a C os f .any (fun w args => (s.pre enc C.prog fn conds apart w args ∧ X w args) ∧ sizedMet enc C.prog fn (OpenSpec.ofChange s) apart w args) (s.post enc C.prog fn apart fresh handsOn again) := by
  refine returnsInHanded_of_calls own started noInit witness ?_
  intro w tape i _ hsh _ hok hpre hholds
  obtain ⟨_, _, _, fn', hfn', _, _, _, _, hval⟩ := hok
  have e : fn' = fn := Option.some.inj (hfn'.symm.trans hfn)
  subst e
  obtain ⟨⟨⟨ds, gs, before, hw, hc⟩, hx⟩, hz⟩ := hpre
  have hw' := DataW.Whole.of_heap (w' := w.forCall tape i) (by rfl) hw
  refine (contract (w.forCall tape i) w.heap.size i.args ds gs before hval hw' hc (hz.weights hw) (hX _ _ _ (by rfl) hx) hsh hholds).mono fun e W' ⟨v, he, hp⟩ => ?_
  subst he
  exact ChangeSpec.post_blind hp
end Go

/- What the readers of digits carry on. -/
set_option linter.unusedVariables false
set_option linter.unusedSimpArgs false
namespace Go.Sx
open Go Go.RowKit
variable {C : Cx} {env env' : Env} {m m' : List Ent} {o : Oper} {K : Env → List Ent → Prop}
theorem fr_sub64J {T x y T' p q} (j : Nat) (ho : o.op = .binOp .sub T x y T') (hx : ev env x = some (.int .i64 p)) (hy : ev env y = some (.int .i64 q)) (h : p - q = (j : Int)) (hj : j ≤ 4611686018427387904) : Free C o env m (.int .i64 (j : Int)) := by
  have := fr_sub64 (C := C) (m := m) ho hx hy (by omega)
  rwa [h] at this
theorem set_put {α : Type} {f : α → List Value} {sz : Nat} (hf : ∀ x, (f x).length = sz) (xs : List α) (k : Nat) (y : α) (h : k < xs.length) {i : Nat} (hi : i = k * sz) {v : List Value} (hv : v = f y) : put (xs.flatMap f) i v = (xs.set k y).flatMap f := by
  subst hi hv
  exact flat_put hf xs k y h
end Go.Sx
namespace Go.W
open Go Go.Sx
/-- Digits laid so far. -/
structure DgS where
  k : Nat
  d : List Int
def zeros8 : List Int := [0, 0, 0, 0, 0, 0, 0, 0]
theorem nums_set {d : List Int} (h : Nums 255 d) {i : Nat} {n : Int} (hn : 0 ≤ n ∧ n ≤ 255) : Nums 255 (d.set i n) := fun x hx => by
  rcases List.mem_or_eq_of_mem_set hx with h1 | h1
  · exact h x h1
  · subst h1; exact hn
theorem nums_z : Nums 255 zeros8 := fun x hx => by
  simp only [zeros8, List.mem_cons, List.not_mem_nil, or_false, or_self] at hx
  subst hx
  exact ⟨by decide, by decide⟩
theorem take3 {w : List UInt8} {j : Nat} (h : j ≤ 3) (h1 : j = w.length ∨ j = 3) : w.take j = w.take 3 := by
  rcases h1 with rfl | rfl
  · rw [List.take_length, List.take_of_length_le h]
  · rfl
/-- The digits that the specification reads, if there are any. -/
def L01 (s : List Int) (t : List UInt8) (x : Dig × Bool) : Prop := Nums 255 x.1.l ∧ ((x.2 = true ∧ validDig s x.1.l = true ∧ digT s x.1.l = t) ∨ (x.2 = false ∧ NoDig s t))
theorem l01_no {s : List Int} {t : List UInt8} (h : NoDig s t) : L01 s t (dig0, false) := ⟨nums_z, .inr ⟨rfl, h⟩⟩
theorem l01_yes {s : List Int} {t : List UInt8} {d : List Int} (hs : Stk s) (h8 : d.length = 8) (hn : Nums 255 d) (hl : (splitA 58 [] t).length = s.length) (h : DigB s t d s.length) : L01 s t (dig d, true) := by
  have := digB_end hs hl h
  unfold L01
  rw [dig_l h8]
  exact ⟨hn, .inl ⟨rfl, this⟩⟩
/-- What is read of a text for a stack, a valid one or not. -/
def RdDig (s : List Int) (t : List UInt8) (x : Dig × Int) : Prop := (validStack s = false ∧ x = (dig0, 1)) ∨ (validStack s = true ∧ DigRd s t x)
theorem rdDig_one {s : List Int} {t : List UInt8} {x y : Dig × Int} (hx : RdDig s t x) (hy : RdDig s t y) : x = y := by
  rcases hx with ⟨a, rfl⟩ | ⟨a, hx⟩
  · rcases hy with ⟨_, rfl⟩ | ⟨b, _⟩
    · rfl
    · rw [a] at b; cases b
  · rcases hy with ⟨b, _⟩ | ⟨b, hy⟩
    · rw [a] at b; cases b
    · exact digRd_one (stk a) hx hy
theorem rdDig_num {s : List Int} {t : List UInt8} {x : Dig × Int} (hx : RdDig s t x) : Nums 255 x.1.l := by
  rcases hx with ⟨_, rfl⟩ | ⟨_, hx⟩
  · exact nums_z
  · exact hx.1
theorem rdDig_v {s : List Int} {t : List UInt8} (h : validStack s = false) : RdDig s t (dig0, 1) := .inl ⟨h, rfl⟩
theorem rdDig_no {s : List Int} {t : List UInt8} (h : validStack s = true) (h1 : NoDig s t) : RdDig s t (dig0, 5) := .inr ⟨h, nums_z, .inr ⟨rfl, rfl, h1⟩⟩
theorem rdDig_f {s : List Int} {t : List UInt8} {x : Dig × Bool} (h : validStack s = true) (h1 : L01 s t x) (h2 : x.2 = false) : RdDig s t (dig0, 5) := by
  rcases h1.2 with ⟨e, _⟩ | ⟨_, e⟩
  · rw [h2] at e; cases e
  · exact rdDig_no h e
theorem rdDig_t {s : List Int} {t : List UInt8} {x : Dig × Bool} (h : validStack s = true) (h1 : L01 s t x) (h2 : x.2 = true) : RdDig s t (x.1, 0) := by
  rcases h1.2 with ⟨_, e⟩ | ⟨e, _⟩
  · exact .inr ⟨h, h1.1, .inl ⟨rfl, e⟩⟩
  · rw [h2] at e; cases e
/-- The program's digits have the text: they are valid. -/
theorem rdDig_i {s : List Int} {t : List UInt8} {d : List Int} (h : validStack s = true) (h8 : d.length = 8) (hn : Nums 255 d) (hl : (splitA 58 [] t).length = s.length) (hd : DigU s t d s.length) (ht : digTx s (dig d).l = t) : RdDig s t (dig d, 0) := by
  refine .inr ⟨h, ?_⟩
  unfold DigRd
  rw [dig_l h8] at ht ⊢
  refine ⟨hn, .inl ⟨rfl, ?_⟩⟩
  cases hv : validDig s d
  · exfalso
    rw [digTx_f (by rw [h, hv]; rfl)] at ht
    subst ht
    have hs := stk h
    have h1 := hs.len1
    have hl : [[]].length = s.length := hl
    simp only [List.length_cons, List.length_nil] at hl
    have h2 := (hd 0 (by omega)).1 (by omega) (by omega)
    rw [show s.length - 1 - 0 = 0 by omega] at h2
    have h3 : U7 [] (d.getD 0 0) := h2
    have h4 := h3.2.2
    exact absurd h4 (by simp [Lib.parseUintB])
  · exact ⟨rfl, by rw [← ht]; exact (digTx_t (by rw [h, hv]; rfl)).symm⟩
theorem rdDig_n {s : List Int} {t : List UInt8} {d : List Int} (h : validStack s = true) (h8 : d.length = 8) (hd : DigU s t d s.length) (ht : ¬ digTx s (dig d).l = t) : RdDig s t (dig0, 5) :=
  rdDig_no h (ndg_end h (d := dig d) (by rw [dig_l h8]; exact hd) ht)
/-! ### ParseUint at seven bits -/
def PUint (t : List UInt8) (n : Int) (b : Bool) : Prop := (0 ≤ n ∧ n ≤ 127) ∧ (b = true → U7 t n) ∧ (b = false → ∀ u, ¬ U7 t u)
theorem pum_dig {acc : Nat} {c : UInt8} {r : List UInt8} (h : isDig c) (h0 : acc ≤ 127) (h1 : acc * 10 + (c.toNat - 48) ≤ 127) : Lib.parseUintM 127 acc (c :: r) = Lib.parseUintM 127 (acc * 10 + (c.toNat - 48)) r := by
  unfold isDig at h
  rw [Lib.parseUintM, if_pos h, if_neg (by omega), if_neg (by omega)]
theorem pum_over {acc : Nat} {c : UInt8} {r : List UInt8} (h : isDig c) (h0 : acc ≤ 127) (h1 : 127 < acc * 10 + (c.toNat - 48)) : Lib.parseUintM 127 acc (c :: r) = .range := by
  unfold isDig at h
  rw [Lib.parseUintM, if_pos h, if_neg (by omega), if_pos h1]
theorem pum_no {acc : Nat} {c : UInt8} {r : List UInt8} (h : ¬ isDig c) : Lib.parseUintM 127 acc (c :: r) = Lib.parseUintB 7 [] := by
  unfold isDig at h
  rw [Lib.parseUintM, if_neg h]; rfl
/-- What has been read of a text's first k bytes. -/
def PUm (t : List UInt8) (k : Nat) (n : Nat) : Prop := n ≤ 127 ∧ Lib.parseUintM 127 0 t = Lib.parseUintM 127 n (t.drop k)
theorem pUm_0 (t : List UInt8) : PUm t 0 0 := ⟨by decide, rfl⟩
theorem pUm_s {t : List UInt8} {k n : Nat} (hk : k < t.length) (h : PUm t k n) (hd : isDig (t.getD k 0)) (h1 : n * 10 + ((t.getD k 0).toNat - 48) ≤ 127) : PUm t (k + 1) (n * 10 + ((t.getD k 0).toNat - 48)) := by
  refine ⟨h1, ?_⟩
  rw [h.2, drop_getD hk, pum_dig hd h.1 h1]
/-- The end that ParseUint comes to. -/
def PEnd (t : List UInt8) (x : Int × Int) : Prop := (x.2 = 0 ∧ U7 t x.1) ∨ (x.2 ≠ 0 ∧ (0 ≤ x.1 ∧ x.1 ≤ 127) ∧ (∀ u, ¬ U7 t u) ∧ (x.2 = 1 ∨ x.2 = 2))
theorem u7_no {t : List UInt8} (h : ∀ n, Lib.parseUintB 7 t ≠ .ok n) : ∀ u, ¬ U7 t u := fun u hu => h _ hu.2.2
theorem puB {t : List UInt8} (h : ¬ t = []) : Lib.parseUintB 7 t = Lib.parseUintM 127 0 t := by unfold Lib.parseUintB; rw [if_neg h]
theorem pend_e {t : List UInt8} (h : t = []) : PEnd t (0, 2) := .inr ⟨by decide, ⟨by decide, by decide⟩, u7_no (fun n => by subst h; simp [Lib.parseUintB]), .inr rfl⟩
theorem pend_no {t : List UInt8} {k n : Nat} (h : ¬ t = []) (hk : k < t.length) (hp : PUm t k n) (hd : ¬ isDig (t.getD k 0)) : PEnd t (0, 2) := .inr ⟨by decide, ⟨by decide, by decide⟩, u7_no (fun m => by rw [puB h, hp.2, drop_getD hk, pum_no hd]; simp [Lib.parseUintB]), .inr rfl⟩
theorem pend_over {t : List UInt8} {k n : Nat} (h : ¬ t = []) (hk : k < t.length) (hp : PUm t k n) (hd : isDig (t.getD k 0)) (h1 : 127 < n * 10 + ((t.getD k 0).toNat - 48)) : PEnd t (127, 1) := .inr ⟨by decide, ⟨by decide, by decide⟩, u7_no (fun m => by rw [puB h, hp.2, drop_getD hk, pum_over hd hp.1 h1]; simp), .inl rfl⟩
theorem pend_ok {t : List UInt8} {k n : Nat} (h : ¬ t = []) (hk : k = t.length) (hp : PUm t k n) : PEnd t ((n : Int), 0) := .inl ⟨rfl, by simp only; omega, by have := hp.1; simp only; omega, by
  rw [puB h, hp.2, hk, List.drop_length]; rfl⟩
end Go.W
namespace Go.W
open Go Go.Sx
theorem pum_bd : ∀ (l : List UInt8) (a u : Nat), a ≤ 127 → Lib.parseUintM 127 a l = .ok u → u ≤ 127
  | [], a, u, ha, h => by
    injection h with h
    omega
  | c :: r, a, u, ha, h => by
    unfold Lib.parseUintM at h
    split at h
    · split at h
      · cases h
      · split at h
        · cases h
        · exact pum_bd r _ u (by omega) h
    · cases h
theorem puint_ok {t : List UInt8} {u : Nat} (h : Lib.parseUintB 7 t = .ok u) : PUint t u true := by
  have hb : u ≤ 127 := by
    unfold Lib.parseUintB at h
    split at h
    · cases h
    · exact pum_bd t 0 u (by decide) h
  refine ⟨⟨by omega, by omega⟩, fun _ => ⟨by omega, by omega, by rw [Int.toNat_natCast]; exact h⟩, ?_⟩
  intro e; exact absurd e (by simp)
theorem puint_no {t : List UInt8} {n : Int} (hn : 0 ≤ n ∧ n ≤ 127) (h : ∀ u, Lib.parseUintB 7 t ≠ .ok u) : PUint t n false := by
  refine ⟨hn, ?_, fun _ u hu => h _ hu.2.2⟩
  intro e; exact absurd e (by simp)
end Go.W

/- Tickets read from their texts: a ticket is read iff the text is its own. -/
set_option linter.unusedVariables false
set_option linter.unusedSimpArgs false
namespace Go.W
open Go Go.Sx
theorem val_inj {s l l' : List Int} (hs : Stk s) (h : DigOk s l) (h' : DigOk s l') (hn : s.length ≤ l.length) (hn' : s.length ≤ l'.length) : ∀ j k, k + j = s.length → val (s.drop k) (l.drop k) = val (s.drop k) (l'.drop k) → ∀ i, k ≤ i → i < s.length → l.getD i 0 = l'.getD i 0
  | 0, k, hk, _, i, h1, h2 => by omega
  | j + 1, k, hk, hv, i, h1, h2 => by
    have hb := hs.bases k (by omega)
    have a1 := h k (by omega)
    have a2 := h' k (by omega)
    rw [val_drop (s := s) (l := l) (k := k) (by omega) (by omega), val_drop (s := s) (l := l') (k := k) (by omega) (by omega)] at hv
    have key : l.getD k 0 = l'.getD k 0 ∧ val (s.drop (k + 1)) (l.drop (k + 1)) = val (s.drop (k + 1)) (l'.drop (k + 1)) := by
      generalize val (s.drop (k + 1)) (l.drop (k + 1)) = x at hv ⊢
      generalize val (s.drop (k + 1)) (l'.drop (k + 1)) = y at hv ⊢
      generalize l.getD k 0 = p at *
      generalize l'.getD k 0 = q at *
      generalize s.getD k 0 = b at *
      have e1 : (p + b * x) % b = p := by rw [Int.add_mul_emod_self_left, Int.emod_eq_of_lt a1.1 a1.2]
      have e2 : (q + b * y) % b = q := by rw [Int.add_mul_emod_self_left, Int.emod_eq_of_lt a2.1 a2.2]
      have hpq : p = q := by rw [hv, e2] at e1; exact e1.symm
      refine ⟨hpq, ?_⟩
      subst hpq
      have h3 : b * x = b * y := by omega
      exact Int.eq_of_mul_eq_mul_left (by omega) h3
    by_cases hik : i = k
    · subst hik; exact key.1
    · exact val_inj hs h h' hn hn' j (k + 1) (by omega) key.2 i (by omega) h2
/-- Digits are those of their value. -/
theorem dig_val {s : List Int} {d : Dig} (hs : Stk s) (hn : Nums 255 d.l) (hv : validDig s d.l = true) : dig (digs s (val s d.l)) = d := by
  have h8 := hs.len8
  have hd := digOk h8 hn hv
  have hb := val_lt hs hd (by rw [dig_len]; omega)
  have e := val_of' hs hb.1 hb.2
  apply dig_inj
  rw [dig_l (digs_len _ _)]
  apply List.ext_getElem (by rw [digs_len, dig_len])
  intro i h1 h2
  have hi : i < 8 := h2
  have key : (digs s (val s d.l)).getD i 0 = d.l.getD i 0 := by
    by_cases his : i < s.length
    · refine val_inj hs (digs_ok hs) hd (by rw [digs_len]; omega) (by rw [dig_len]; omega) s.length 0 (by omega) ?_ i (Nat.zero_le _) his
      simpa using e
    · rw [digs_at hi, if_neg his]
      unfold validDig at hv
      rw [List.all_eq_true] at hv
      have := hv i (List.mem_range.2 hi)
      unfold goodAt at this
      rw [if_neg his, decide_eq_true_iff] at this
      exact this.symm
  rw [List.getD, List.getD, List.getElem?_eq_getElem h1, List.getElem?_eq_getElem h2] at key
  exact key
theorem dsv_val {s : List Int} {d : Dig} (hs : Stk s) (hn : Nums 255 d.l) (hv : validDig s d.l = true) : dsv s (val s d.l) = d.l := by
  unfold dsv
  rw [dig_val hs hn hv]
theorem digT_no {s l : List Int} {c : UInt8} (hs : Stk s) (hd : DigOk s l) (hc : c.toNat < 48) : c ∉ digT s l := by
  have h58 : c ≠ 58 := fun e => by subst e; exact absurd hc (by decide)
  unfold digT
  have key : ∀ xs : List (List UInt8), (∀ x ∈ xs, c ∉ x) → c ∉ Lib.join xs [58] := fun xs => by
    induction xs with
    | nil => intro _; simp [Lib.join, List.intercalate]
    | cons x r ih =>
      intro h
      cases r with
      | nil => rw [Lib.join_one]; exact h x (by simp)
      | cons y q =>
        rw [join_cons2, List.mem_append, List.mem_append, not_or, not_or]
        exact ⟨⟨h x (by simp), by simpa using h58⟩, ih fun z hz => h z (List.mem_cons_of_mem _ hz)⟩
  refine key _ fun x hx => ?_
  obtain ⟨i, hi, rfl⟩ := List.mem_map.1 hx
  have hi := List.mem_range.1 hi
  have h2 := hd (s.length - 1 - i) (by omega)
  exact dg_no h2.1 (.inl hc)
/-! ### Tickets -/
def tic0 : VTic := ⟨0, dig0, 0⟩
def NoTic (s : List Int) (t : List UInt8) : Prop := ∀ k : VTic, OkTic k → genT s k = true → ticT s k ≠ t
structure TicP (s : List Int) (t : List UInt8) (k : VTic) : Prop where
  len : (splitA 32 [] t).length = 3
  p0 : (splitA 32 [] t).getD 0 [] = Lib.itoa k.number
  p1 : (splitA 32 [] t).getD 1 [] = digT s k.shows.l
  p2 : (splitA 32 [] t).getD 2 [] = Lib.itoa k.check
  num : 1 ≤ k.number ∧ k.number ≤ 1000000
  val_ : validDig s k.shows.l = true
theorem tic_parts {s : List Int} {t : List UInt8} {k : VTic} (hs : Stk s) (hk : OkTic k) (hg : genT s k = true) (ht : ticT s k = t) : TicP s t k := by
  obtain ⟨h1, h2, h3⟩ := gen_of hg
  have hd := digOk hs.len8 hk.2.1 h2
  have e : ticT s k = Lib.join [Lib.itoa k.number, digT s k.shows.l, Lib.itoa k.check] [32] := by
    rw [join_cons2, join_cons2, Lib.join_one]
    unfold ticT
    simp [List.append_assoc]
  have hp : splitA 32 [] t = [Lib.itoa k.number, digT s k.shows.l, Lib.itoa k.check] := by
    rw [← ht, e]
    refine split_join _ (by simp) fun y hy => ?_
    simp only [List.mem_cons, List.not_mem_nil, or_false] at hy
    rcases hy with rfl | rfl | rfl
    · exact itoa_no (by omega) (by decide)
    · exact digT_no hs hd (by decide)
    · exact itoa_no hk.2.2.1 (by decide)
  exact ⟨by rw [hp]; rfl, by rw [hp]; rfl, by rw [hp]; rfl, by rw [hp]; rfl, h1, h2⟩
theorem tic_join {s : List Int} {t : List UInt8} {n c : Int} {d : Dig} (h : (splitA 32 [] t).length = 3) (h0 : (splitA 32 [] t).getD 0 [] = Lib.itoa n) (h1 : (splitA 32 [] t).getD 1 [] = digT s d.l) (h2 : (splitA 32 [] t).getD 2 [] = Lib.itoa c) : ticT s ⟨n, d, c⟩ = t := by
  have hj := join_split 32 t []
  rcases hp : splitA 32 [] t with _ | ⟨a, _ | ⟨b, _ | ⟨e, _ | ⟨f, r⟩⟩⟩⟩ <;> rw [hp] at h <;> simp only [List.length_cons, List.length_nil] at h <;> first | omega | skip
  rw [hp] at h0 h1 h2 hj
  have h0 : a = Lib.itoa n := h0
  have h1 : b = digT s d.l := h1
  have h2 : e = Lib.itoa c := h2
  rw [join_cons2, join_cons2, Lib.join_one, h0, h1, h2] at hj
  unfold ticT
  simpa [List.append_assoc] using hj
theorem tic_inj {s : List Int} {k k' : VTic} (hs : Stk s) (hk : OkTic k) (hk' : OkTic k') (hg : genT s k = true) (hg' : genT s k' = true) (h : ticT s k = ticT s k') : k = k' := by
  have a := tic_parts hs hk hg h
  have b := tic_parts hs hk' hg' rfl
  have e0 : k.number = k'.number := itoa_inj (by have := a.num; omega) (by have := b.num; omega) (a.p0.symm.trans b.p0)
  have e2 : k.check = k'.check := itoa_inj (by have := hk.2.2; omega) (by have := hk'.2.2; omega) (a.p2.symm.trans b.p2)
  have e1 : k.shows = k'.shows := dig_one hs hk.2.1 hk'.2.1 a.val_ b.val_ (a.p1.symm.trans b.p1)
  cases k; cases k'
  simp only at e0 e1 e2
  rw [e0, e1, e2]
def RdTic (s : List Int) (t : List UInt8) (x : VTic × Int) : Prop := OkTic x.1 ∧ ((validStack s = false ∧ x = (tic0, 1)) ∨ (validStack s = true ∧ ((x.2 = 0 ∧ genT s x.1 = true ∧ ticT s x.1 = t) ∨ (x.2 = 5 ∧ x.1 = tic0 ∧ NoTic s t))))
theorem okTic0 : OkTic tic0 := ⟨⟨by decide, by decide⟩, nums_z, by decide, by decide⟩
theorem rdTic_v {s : List Int} {t : List UInt8} (h : validStack s = false) : RdTic s t (tic0, 1) := ⟨okTic0, .inl ⟨h, rfl⟩⟩
theorem rdTic_no {s : List Int} {t : List UInt8} (h : validStack s = true) (h1 : NoTic s t) : RdTic s t (tic0, 5) := ⟨okTic0, .inr ⟨h, .inr ⟨rfl, rfl, h1⟩⟩⟩
theorem rdTic_one {s : List Int} {t : List UInt8} {x y : VTic × Int} (hx : RdTic s t x) (hy : RdTic s t y) : x = y := by
  obtain ⟨ox, hx⟩ := hx
  obtain ⟨oy, hy⟩ := hy
  rcases hx with ⟨a, rfl⟩ | ⟨a, hx⟩
  · rcases hy with ⟨_, rfl⟩ | ⟨b, _⟩
    · rfl
    · rw [a] at b; cases b
  · rcases hy with ⟨b, _⟩ | ⟨b, hy⟩
    · rw [a] at b; cases b
    · rcases hx with ⟨c1, c2, c3⟩ | ⟨c1, c2, c3⟩ <;> rcases hy with ⟨d1, d2, d3⟩ | ⟨d1, d2, d3⟩
      · exact Prod.ext (tic_inj (stk a) ox oy c2 d2 (c3.trans d3.symm)) (c1.trans d1.symm)
      · exact absurd c3 (d3 x.1 ox c2)
      · exact absurd d3 (c3 y.1 oy d2)
      · exact Prod.ext (c2.trans d2.symm) (c1.trans d1.symm)
theorem nt_len {s : List Int} {t : List UInt8} (h : validStack s = true) (h3 : (splitA 32 [] t).length ≠ 3) : NoTic s t := fun k hk hg ht => h3 (tic_parts (stk h) hk hg ht).len
/-- Where the specification's readings are not all good, there is no ticket. -/
theorem nt_s {s : List Int} {t : List UInt8} {x : Dig × Bool} (h : validStack s = true) (hx : L01 s ((splitA 32 [] t).getD 1 []) x) (hb : ¬ ((numR 9 ((splitA 32 [] t).getD 0 [])).2 = true ∧ x.2 = true ∧ (numR 9 ((splitA 32 [] t).getD 2 [])).2 = true ∧ (numR 9 ((splitA 32 [] t).getD 2 [])).1 ≤ 65535 ∧ genT s ⟨(numR 9 ((splitA 32 [] t).getD 0 [])).1, x.1, (numR 9 ((splitA 32 [] t).getD 2 [])).1⟩ = true)) : NoTic s t := fun k hk hg ht => by
  have p := tic_parts (stk h) hk hg ht
  have e0 := numR_itoa (B := 9) (n := k.number) (by have := p.num; omega) (by have := p.num; omega) (by decide)
  have e2 := numR_itoa (B := 9) (n := k.check) hk.2.2.1 (by have := hk.2.2; omega) (by decide)
  rw [p.p0, p.p2, e0, e2] at hb
  have hxe : x.2 = true ∧ x.1 = k.shows := by
    rw [p.p1] at hx
    rcases hx.2 with ⟨a, b, c⟩ | ⟨a, b⟩
    · exact ⟨a, dig_one (stk h) hx.1 hk.2.1 b p.val_ c⟩
    · exact absurd rfl (b k.shows hk.2.1 p.val_)
  exact hb ⟨rfl, hxe.1, rfl, hk.2.2.2, by simp only; rw [hxe.2]; exact hg⟩
theorem rdTic_s {s : List Int} {t : List UInt8} {x : Dig × Bool} (h : validStack s = true) (h3 : (splitA 32 [] t).length = 3) (hx : L01 s ((splitA 32 [] t).getD 1 []) x) (h0 : (numR 9 ((splitA 32 [] t).getD 0 [])).2 = true) (h1 : x.2 = true) (h2 : (numR 9 ((splitA 32 [] t).getD 2 [])).2 = true) (hok : OkTic ⟨(numR 9 ((splitA 32 [] t).getD 0 [])).1, x.1, (numR 9 ((splitA 32 [] t).getD 2 [])).1⟩) (hg : genT s ⟨(numR 9 ((splitA 32 [] t).getD 0 [])).1, x.1, (numR 9 ((splitA 32 [] t).getD 2 [])).1⟩ = true) : RdTic s t (⟨(numR 9 ((splitA 32 [] t).getD 0 [])).1, x.1, (numR 9 ((splitA 32 [] t).getD 2 [])).1⟩, 0) := by
  refine ⟨hok, .inr ⟨h, .inl ⟨rfl, hg, ?_⟩⟩⟩
  rcases hx.2 with ⟨_, _, c⟩ | ⟨a, _⟩
  · exact tic_join h3 (numR_true h0).1 c.symm (numR_true h2).1
  · rw [h1] at a; cases a
/-- Where the program's readings are not all good, or the text is another one, there is no ticket. -/
theorem nt_i {s : List Int} {t : List UInt8} {x y : Int × Bool} {d : Dig × Int} (h : validStack s = true) (hx : RDec ((splitA 32 [] t).getD 0 []) x) (hd : RdDig s ((splitA 32 [] t).getD 1 []) d) (hy : RDec ((splitA 32 [] t).getD 2 []) y) (hb : ¬ (x.2 = true ∧ y.2 = true ∧ d.2 = 0 ∧ ticTx s ⟨x.1, d.1, IntKind.u16.wrap y.1⟩ = t)) : NoTic s t := fun k hk hg ht => by
  have p := tic_parts (stk h) hk hg ht
  obtain ⟨a1, a2⟩ := hx.2.2.1 k.number ⟨by have := p.num; omega, by have := p.num; omega⟩ p.p0
  obtain ⟨b1, b2⟩ := hy.2.2.1 k.check ⟨by have := hk.2.2; omega, by have := hk.2.2; omega⟩ p.p2
  have e : d = (k.shows, 0) := rdDig_one hd (.inr ⟨h, hk.2.1, .inl ⟨rfl, p.val_, p.p1.symm⟩⟩)
  refine hb ⟨a1, b1, by rw [e], ?_⟩
  have hw : IntKind.u16.wrap y.1 = k.check := by rw [b2]; exact IntWalk.u16_in _ hk.2.2
  rw [hw, a2, e]
  rw [ticTx_t h hg]
  exact ht
theorem rdTic_i {s : List Int} {t : List UInt8} {x y : Int × Bool} {d : Dig × Int} (h : validStack s = true) (h3 : (splitA 32 [] t).length = 3) (hok : OkTic ⟨x.1, d.1, IntKind.u16.wrap y.1⟩) (ht : ticTx s ⟨x.1, d.1, IntKind.u16.wrap y.1⟩ = t) : RdTic s t (⟨x.1, d.1, IntKind.u16.wrap y.1⟩, 0) := by
  refine ⟨hok, .inr ⟨h, .inl ⟨rfl, ?_⟩⟩⟩
  cases hg : genT s ⟨x.1, d.1, IntKind.u16.wrap y.1⟩
  · rw [ticTx_1 hg] at ht
    subst ht
    have h3 : ([[]] : List (List UInt8)).length = 3 := h3
    simp at h3
  · exact ⟨rfl, by rw [← ht]; exact (ticTx_t h hg).symm⟩
end Go.W

/- The tickets of a run: genuine, one behind the other; what lacks; what is forged. -/
set_option linter.unusedVariables false
set_option linter.unusedSimpArgs false
namespace Go.W
open Go Go.Sx
theorem chk2_bd : ∀ (l : List Int) (c : Int), 0 ≤ c ∧ c ≤ 65535 → 0 ≤ chk2 c l ∧ chk2 c l ≤ 65535
  | [], c, h => h
  | x :: r, c, h => by
    show 0 ≤ chk2 (step c x) r ∧ chk2 (step c x) r ≤ 65535
    refine chk2_bd r _ ?_
    unfold W.step
    omega
theorem check_bd (n : Int) (l : List Int) : 0 ≤ check n l ∧ check n l ≤ 65535 := chk2_bd l _ (by
  show 0 ≤ W.step (chk1 n 3) _ ∧ W.step (chk1 n 3) _ ≤ 65535
  unfold W.step
  omega)
theorem ticV_ok {d : VDev} (hk : OkDev d) (hv : validDev d = true) (ht : 1 ≤ d.tickets ∧ d.tickets ≤ 1000000) : OkTic (ticV d) ∧ genT d.stack (ticV d) = true := by
  have hO := devOk hk.2.2.1 hv
  have hvd : validDig d.stack d.shows.l = true := by unfold validDev at hv; rw [decide_eq_true_iff] at hv; exact hv.2.1
  have hc := check_bd d.tickets d.shows.l
  exact ⟨⟨⟨by show _ ≤ d.tickets; omega, by show d.tickets ≤ _; omega⟩, hk.2.2.1, hc.1, hc.2⟩, decide_eq_true ⟨ht, hvd, rfl⟩⟩
theorem do_tick {d : VDev} {a : VAct} {s : List Int} (hk : OkDev d) (hv : validDev d = true) (hs : d.stack = s) (ht : d.tickets ≤ 1000) (h : OkJ s a) : (doV d a).1.tickets = if a.kind = 5 then d.tickets + 1 else d.tickets := by
  have hO := devOk hk.2.2.1 hv
  rcases h with ⟨h1 | h1, h2⟩ | ⟨h1, h2⟩ | ⟨h1 | h1, h2⟩
  · rw [do_1 h1, if_neg (by omega)]; exact (pulse_le (st := 1) hO h2.1).2.2
  · rw [do_2 h1, if_neg (by omega)]; exact (pulse_le (st := -1) hO h2.1).2.2
  · rw [do_3 h1 (by rw [hs]; omega), if_neg (by omega)]
  · rw [do_4 h1, if_neg (by omega)]
  · rw [do_5 h1 (by omega), if_pos h1]
/-- Tickets with numbers one behind the other. -/
structure TckP (s : List Int) (t : Int) (l : List VTic) : Prop where
  num : ∀ i, i < l.length → (l.getD i zT).number = t + i + 1
  gen : ∀ i, i < l.length → genT s (l.getD i zT) = true
  ok : ∀ x ∈ l, OkTic x
theorem TckP.nil {s : List Int} {t : Int} : TckP s t [] := ⟨fun i hi => by simp at hi, fun i hi => by simp at hi, fun x hx => by simp at hx⟩
theorem tsnoc_at {α : Type} {l : List α} {x d : α} {i : Nat} (hi : i < (l ++ [x]).length) : i < l.length ∧ (l ++ [x]).getD i d = l.getD i d ∨ i = l.length ∧ (l ++ [x]).getD i d = x := by
  rw [List.length_append, List.length_singleton] at hi
  by_cases he : i < l.length
  · exact .inl ⟨he, by simp [List.getD, List.getElem?_append, he]⟩
  · obtain rfl : i = l.length := by omega
    exact .inr ⟨rfl, by simp [List.getD, List.getElem?_append]⟩
theorem TckP.snoc {s : List Int} {t : Int} {l : List VTic} {x : VTic} (h : TckP s t l) (h1 : x.number = t + l.length + 1) (h2 : genT s x = true) (h3 : OkTic x) : TckP s t (l ++ [x]) := by
  refine ⟨fun i hi => ?_, fun i hi => ?_, fun y hy => ?_⟩
  · rcases tsnoc_at (d := zT) hi with ⟨a, e⟩ | ⟨a, e⟩
    · rw [e]; exact h.num i a
    · rw [e, h1, a]
  · rcases tsnoc_at (d := zT) hi with ⟨a, e⟩ | ⟨a, e⟩
    · rw [e]; exact h.gen i a
    · rw [e]; exact h2
  · rcases List.mem_append.1 hy with hy | hy
    · exact h.ok y hy
    · rw [List.mem_singleton] at hy; subst hy; exact h3
theorem tics_p {d : VDev} {l : List VAct} (hd : DrDev d) (hl : DrActs d.stack l) : ∀ k, k ≤ l.length → TckP d.stack d.tickets (ticsL d l k) ∧ (runD d l k).tickets = d.tickets + (ticsL d l k).length
  | 0, _ => ⟨TckP.nil, by simp [ticsL, runD]⟩
  | k + 1, hk => by
    obtain ⟨h1, h2⟩ := tics_p hd hl k (by omega)
    obtain ⟨hok, hv, _, ht0, ht⟩ := hd
    have hva : ∀ i, i < l.length → validAct (l.getD i zA) = true := fun i hi => (hl.2 i hi).valid
    have hr := run_ok hok hv hva k (by omega)
    have hr1 := run_ok hok hv hva (k + 1) hk
    have hlen := ticsL_len d l k
    have hl9 := hl.1
    have hs := runD_stack d l k
    have hs1 := runD_stack d l (k + 1)
    have hT := do_tick hr.1 hr.2 hs (by omega) (hl.2 k (by omega))
    have e : runD d l (k + 1) = (doV (runD d l k) (l.getD k zA)).1 := rfl
    rw [← e] at hT
    by_cases h5 : (l.getD k zA).kind = 5
    · rw [if_pos h5, h2] at hT
      rw [tl_5 h5, ← e]
      have hg := ticV_ok hr1.1 hr1.2 (by rw [hT]; omega)
      rw [hs1] at hg
      refine ⟨h1.snoc ?_ hg.2 hg.1, ?_⟩
      · show (runD d l (k + 1)).tickets = _
        rw [hT]
      · rw [hT, List.length_append, List.length_singleton]; push_cast; omega
    · rw [if_neg h5, h2] at hT
      rw [tl_n h5]
      exact ⟨h1, hT⟩
theorem ff_ok {s : List Int} {t : Int} {l : List VTic} (hv : validStack s = true) (h : TckP s t l) (hl : l.length ≤ 60) : firstForged s l = (0, 6) := by
  unfold firstForged
  rw [← tf_ok hv (by omega), if_neg (by decide), firstB_none (k := l.length) (by omega) fun i hi => badT_f (h.gen i hi) ?_]
  · rfl
  · rintro ⟨h0, h1⟩
    rw [h.num i hi, h.num (i - 1) (by omega)] at h1
    omega
theorem set_at {l : List VTic} {k : Nat} {x : VTic} (hk : k < l.length) (i : Nat) : (l.set k x).getD i zT = if i = k then x else l.getD i zT := by
  by_cases e : i = k
  · subst e; rw [if_pos rfl]; simp [List.getD, hk]
  · rw [if_neg e]; simp [List.getD, List.getElem?_set, Ne.symm e]
/-- A ticket told twice is found. -/
theorem ff_twice {s : List Int} {t : Int} {l : List VTic} {k : Nat} (hv : validStack s = true) (h : TckP s t l) (hl : l.length ≤ 60) (hk : k < l.length) (h0 : 0 < k) : firstForged s (l.set k (l.getD (k - 1) zT)) = ((k : Int), 0) := by
  unfold firstForged
  rw [List.length_set, ← tf_ok hv (by omega), if_neg (by decide), firstB_hit (k := k) hk]
  · rfl
  · intro i hi
    refine badT_f ?_ ?_
    · rw [set_at hk, if_neg (by omega)]; exact h.gen i (by omega)
    · rintro ⟨h1, h2⟩
      rw [set_at hk, set_at hk, if_neg (by omega), if_neg (by omega), h.num i (by omega), h.num (i - 1) (by omega)] at h2
      omega
  · refine badT_2 h0 ?_
    rw [set_at hk, set_at hk, if_pos rfl, if_neg (by omega)]
    exact Int.le_refl _
theorem set_ok {s : List Int} {t : Int} {l : List VTic} {k : Nat} (h : TckP s t l) (hk : k < l.length) : ∀ x ∈ l.set k (l.getD (k - 1) zT), OkTic x := fun x hx => by
  rcases List.mem_or_eq_of_mem_set hx with h1 | h1
  · exact h.ok x h1
  · subst h1; exact h.ok _ (getD_mem zT (by omega))
theorem hasI_mk {n : Nat} {a x : Int} : hasI (mkI n a) x = true ↔ a ≤ x ∧ x < a + n := by
  unfold hasI
  rw [decide_eq_true_iff, mkI_len]
  constructor
  · rintro ⟨i, hi, e⟩
    rw [mkI_at hi] at e
    omega
  · rintro ⟨h1, h2⟩
    exact ⟨(x - a).toNat, by omega, by rw [mkI_at (by omega)]; omega⟩
theorem mkI_s (n : Nat) (a : Int) : mkI (n + 1) a = mkI n a ++ [a + n] := by simp [mkI, List.range_succ]
theorem nums_p {s : List Int} {t : Int} {l : List VTic} (h : TckP s t l) : ∀ k, k ≤ l.length → numsL l k = mkI k (t + 1)
  | 0, _ => rfl
  | k + 1, hk => by
    have ih := nums_p h k (by omega)
    have hn := h.num k (by omega)
    rw [nl_f (by
      rw [ih]
      cases hh : hasI (mkI k (t + 1)) (l.getD k zT).number
      · rfl
      · have := hasI_mk.1 hh
        omega), ih, mkI_s, hn]
    congr 2
    omega
theorem most_p {s : List Int} {t : Int} {l : List VTic} (h : TckP s t l) (ht : 0 ≤ t) : ∀ k, k ≤ l.length → mostL l k = if k = 0 then 0 else t + k
  | 0, _ => rfl
  | k + 1, hk => by
    rw [mostL, most_p h ht k (by omega), h.num k (by omega), if_neg (show ¬ k + 1 = 0 by omega)]
    by_cases hk0 : k = 0
    · subst hk0; rw [if_pos rfl]; push_cast; omega
    · rw [if_neg hk0]; push_cast; omega
theorem lack_lo {n : Nat} {t : Nat} : ∀ j, j ≤ t → lackL (mkI n ((t : Int) + 1)) j = mkI j 1
  | 0, _ => rfl
  | j + 1, hj => by
    rw [ll_f (by
      cases hh : hasI (mkI n ((t : Int) + 1)) ((j : Int) + 1)
      · rfl
      · have := hasI_mk.1 hh; omega), lack_lo j (by omega), mkI_s]
    congr 2
    omega
theorem lack_hi {n : Nat} {t : Nat} : ∀ j, j ≤ n → lackL (mkI n ((t : Int) + 1)) (t + j) = mkI t 1
  | 0, _ => lack_lo t (Nat.le_refl _)
  | j + 1, hj => by
    rw [← Nat.add_assoc, ll_t (hasI_mk.2 (by push_cast; omega)), lack_hi j (by omega)]
/-- What lacks: the numbers ahead of the first ticket. -/
theorem miss_p {s : List Int} {t : Int} {l : List VTic} (hv : validStack s = true) (h : TckP s t l) (ht : 0 ≤ t ∧ t ≤ 19) (hl : l.length ≤ 60) : missV s l = (mkI (if l.length = 0 then 0 else t.toNat) 1, 0) := by
  obtain ⟨t, rfl⟩ := Int.eq_ofNat_of_zero_le ht.1
  have hn := nums_p h l.length (Nat.le_refl _)
  have hm := most_p h ht.1 l.length (Nat.le_refl _)
  rw [mi_ok (k := l.length) (j := (mostL l l.length).toNat) (by rw [← tf_ok hv (by omega)]; decide) rfl (fun i hi => ggood (h.gen i hi)) (by rw [hn, hm, mkI_len]; split <;> omega) rfl, hn, hm]
  split
  · rename_i h0
    rw [h0]; rfl
  · have e : ((t : Int) + l.length).toNat = t + l.length := by omega
    rw [e, lack_hi l.length (Nat.le_refl _)]
    rfl
/-- Another check is forged. -/
theorem xor_ne {c : Int} (h : 0 ≤ c ∧ c ≤ 65535) : bits .xor .u16 c 1 ≠ c ∧ 0 ≤ bits .xor .u16 c 1 ∧ bits .xor .u16 c 1 ≤ 65535 := by
  obtain ⟨n, rfl⟩ := Int.eq_ofNat_of_zero_le h.1
  have e : bits .xor .u16 (n : Int) 1 = IntKind.u16.wrap ((BitVec.ofInt IntKind.u16.bits (n : Int) ^^^ BitVec.ofInt IntKind.u16.bits 1).toNat : Int) := rfl
  rw [e]
  have hlt := (BitVec.ofInt IntKind.u16.bits (n : Int) ^^^ BitVec.ofInt IntKind.u16.bits 1).isLt
  have h16 : (2 : Nat) ^ IntKind.u16.bits = 65536 := by decide
  rw [h16] at hlt
  have hw : IntKind.u16.wrap ((BitVec.ofInt IntKind.u16.bits (n : Int) ^^^ BitVec.ofInt IntKind.u16.bits 1).toNat : Int) = ((BitVec.ofInt IntKind.u16.bits (n : Int) ^^^ BitVec.ofInt IntKind.u16.bits 1).toNat : Int) := IntWalk.u16_in _ (by omega)
  rw [hw]
  refine ⟨fun e2 => ?_, by omega, by omega⟩
  have e3 : (BitVec.ofInt IntKind.u16.bits (n : Int) ^^^ BitVec.ofInt IntKind.u16.bits 1) = BitVec.ofNat IntKind.u16.bits n := by
    apply BitVec.eq_of_toNat_eq
    rw [BitVec.toNat_ofNat, h16, Nat.mod_eq_of_lt (by omega)]
    omega
  have e4 := congrArg (fun y => y.getLsbD 0) e3
  simp only [BitVec.ofInt_natCast, BitVec.getLsbD_xor] at e4
  have e5 : (BitVec.ofInt IntKind.u16.bits 1).getLsbD 0 = true := by decide
  rw [e5] at e4
  cases hb : (BitVec.ofNat IntKind.u16.bits n).getLsbD 0 <;> rw [hb] at e4 <;> cases e4
theorem wrong_gen {s : List Int} {t : VTic} (ht : OkTic t) (h : genT s t = true) : genT s ⟨t.number, t.shows, bits .xor .u16 t.check 1⟩ = false ∧ OkTic ⟨t.number, t.shows, bits .xor .u16 t.check 1⟩ := by
  have hx := xor_ne ht.2.2
  refine ⟨decide_eq_false ?_, ht.1, ht.2.1, hx.2⟩
  rintro ⟨_, _, h3⟩
  have := (gen_of h).2.2
  simp only at h3
  rw [← this] at h3
  exact hx.1 h3
theorem print_ok {d : VDev} (hd : DrDev d) : printV d = ((doV d a5).1, ticV (doV d a5).1, 0) ∧ (ticV (doV d a5).1).number = d.tickets + 1 := by
  obtain ⟨hok, hv, _, ht0, ht⟩ := hd
  have h5 : doV d a5 = (⟨d.stack, d.shows, d.preset, d.stopped, d.tickets + 1⟩, 0, 0) := do_5 rfl (by omega)
  have hda : doActV d a5 = doV d a5 := da_ok ⟨hv, by decide⟩ (by rw [h5]; exact fun h => h rfl)
  rw [pr_ok (by rw [hda, h5]; exact fun h => h rfl), hda]
  exact ⟨rfl, by rw [h5]; rfl⟩
end Go.W
namespace Go.W
open Go Go.Sx
theorem rdTic_back {s : List Int} {k : VTic} {x : VTic × Int} (hv : validStack s = true) (hok : OkTic k) (hg : genT s k = true) (hx : RdTic s (ticTx s k) x) : x.1 = k ∧ x.2 = 0 := by
  rw [ticTx_t hv hg] at hx
  have := rdTic_one hx (y := (k, 0)) ⟨hok, .inr ⟨hv, .inl ⟨rfl, hg, rfl⟩⟩⟩
  rw [this]
  exact ⟨rfl, rfl⟩
theorem ticTx_le {s : List Int} {k : VTic} (hv : validStack s = true) (hok : OkTic k) (hg : genT s k = true) : (ticTx s k).length ≤ 1000 := by
  rw [ticTx_t hv hg]
  have hS := stk hv
  have h1 := digT_le hS (digOk hS.len8 hok.2.1 (gen_of hg).2.1)
  have h2 := itoa_le (n := k.number) (by have := (gen_of hg).1; omega)
  have h3 := itoa_le (n := k.check) (by have := hok.2.2; omega)
  unfold ticT
  simp only [List.length_append, List.length_cons, List.length_nil]
  omega
theorem ck_gen {s : List Int} {k : VTic} (hv : validStack s = true) (hg : genT s k = true) : ckOf s k.number k.shows = (k.check, 0) := by
  obtain ⟨h1, h2, h3⟩ := gen_of hg
  unfold ckOf
  rw [if_neg (by rw [hv, h2]; simp), if_neg (by omega), h3]
/-- What the law of tickets asks of a run. -/
structure TkL (d : VDev) (l : List VAct) : Prop where
  code : (runV d l).2.2.2.2 = 0
  p : TckP d.stack d.tickets (runV d l).2.2.1
  len : (runV d l).2.2.1.length ≤ 9
theorem tkl {d : VDev} {l : List VAct} (hd : DrDev d) (hl : DrActs d.stack l) : TkL d l := by
  have hR := run_drawn hd hl
  have hp := (tics_p hd hl l.length (Nat.le_refl _)).1
  have h9 := ticsL_len d l l.length
  have hl9 := hl.1
  have e : (runV d l).2.2.1 = ticsL d l l.length := by rw [hR.rv]
  exact ⟨by rw [hR.rv], by rw [e]; exact hp, by rw [e]; omega⟩
theorem miss_f {s : List Int} {t : Int} {l : List VTic} (hv : validStack s = true) (h : TckP s t l) (ht : 0 ≤ t ∧ t ≤ 19) (hl : l.length ≤ 60) : (missV s l).2 = 0 ∧ (0 < l.length → ((missV s l).1.length : Int) = t) ∧ (l.length = 0 → (missV s l).1.length = 0) ∧ ∀ i, i < (missV s l).1.length → (missV s l).1.getD i 0 = (i : Int) + 1 := by
  rw [miss_p hv h ht hl]
  refine ⟨rfl, fun h0 => ?_, fun h0 => ?_, fun i hi => ?_⟩
  · rw [if_neg (by omega)]; show (((mkI t.toNat 1).length : Nat) : Int) = t
    rw [mkI_len]; omega
  · rw [if_pos h0]; rfl
  · have hi : i < (mkI (if l.length = 0 then 0 else t.toNat) 1).length := hi
    rw [mkI_len] at hi
    show (mkI _ 1).getD i 0 = _
    rw [mkI_at hi]; omega
end Go.W

/- What these functions of the program hand back, each proved by walking its operations. -/
set_option linter.unusedVariables false
set_option linter.unusedSimpArgs false
set_option maxRecDepth 4000
namespace Go.Proofs.YtiibhahhjkaodaaGreatDoor
open Go Go.Sx Go.RowKit Go.W Go.Proofs
attribute [local irreducible] Ex ExL ExD Op1 Free RetQ MutQ Reads CellO SegO LoadsAs
theorem eq_Tic (a b : VTic) : EqOk Tryz.prog 10000 40 (.agg (encT a).toArray) (.agg (encT b).toArray) (sameT a b) := by
  refine EqOk.as (EqOk.struct (d := 9999) rfl rfl (by kernel_rfl) (EqFs.one rfl rfl rfl rfl rfl (EqOk.int rfl) (EqFs.many (cx := encD a.shows) (cy := encD b.shows) rfl rfl rfl rfl rfl rfl (EqOk.ints (d := 9997) rfl rfl rfl rfl a.shows.l b.shows.l rfl rfl) (EqFs.one rfl rfl rfl rfl rfl (EqOk.int rfl) EqFs.nil)))) ?_
  unfold sameT; simp [Bool.decide_and]
theorem e_10 : Enters Tryz.prog 10 := Enters.of Tryz.func10 rfl
theorem c_SameTickets (s : List VTic) (As : Option Addr) (cs : Nat) (hls : s.length ≤ maxLen) (At : Option Addr) (ct : Nat) : Ret Tryz.prog 10 [.slice As s.length cs, .slice At s.length ct] (fun w => Rd w As (s.flatMap encT) ∧ Rd w At (s.flatMap encT)) (fun x : Unit => .bool true) (fun x => []) (fun x => True) := by
  refine Ret.of e_10 Tryz.func10 rfl Tryz.ntmps10 rfl rfl (fun w hpre => ?_)
  have hs := hpre.1.base
  have ht := hpre.2.base
  have hm0 : maxLen = 9223372036854775807 := rfl
  refine Ex.regSeq (ExL.pures 1 rfl ?_)
  refine ExL.nil ?_
  refine Ex.seq ?_
  refine Ex.regSeq (ExL.pures 4 rfl ?_)
  refine ExL.free (fr_neq_f rfl rfl rfl (fun h => h rfl)) rfl rfl rfl ?_
  refine ExL.nil ?_
  refine Ex.cond_f rfl ?_
  refine Ex.skip ?_
  refine Ex.seq ?_
  refine Ex.regSeq (ExL.pures 1 rfl ?_)
  refine ExL.nil ?_
  refine Ex.block ?_
  refine Ex.loopK (X := Nat) (fun k => [(5, .int .i64 k)]) (fun k => []) (fun k => k ≤ s.length) (fun k => s.length - k) 0 [(0, _), (1, _)] [] 0 [] ⟨rfl, trivial⟩ ⟨rfl, rfl, trivial⟩ (rfl) rfl (Nat.zero_le _) (fun k hI => ?_)
  have hI : k ≤ s.length := hI
  refine Ex.seq ?_
  refine Ex.regSeq (ExL.pures 3 rfl ?_)
  refine ExL.lss rfl rfl rfl rfl rfl rfl (fun h1 => ?_) (fun h1 => ?_)
  · refine ExL.nil ?_
    refine Ex.cond_t rfl ?_
    refine Ex.skip ?_
    refine Ex.seq ?_
    refine Ex.block ?_
    refine Ex.drawSeqM rfl ?_
    refine ExD.take (i := 0) rfl (by kernel_rfl) (pureVal_ok rfl) ((List.Sublist.refl _)) rfl rfl rfl ?_
    refine ExD.take (i := 1) rfl (by kernel_rfl) (pureVal_ok rfl) ((List.Sublist.refl _)) rfl rfl rfl ?_
    refine ExD.take (i := 2) rfl (by kernel_rfl) (fr_indexAddrF (Reads.old hs) encT_len rfl rfl rfl rfl rfl rfl (by omega)) ((List.Sublist.refl _)) rfl rfl rfl ?_
    refine ExD.take (i := 3) rfl (by kernel_rfl) (fr_loadN rfl rfl rfl rfl rfl (by first | exact segN (Reads.old hs) encT_len rfl zT (by omega) | exact segF (Reads.old hs) encT_len rfl zT (by omega))) ((List.Sublist.refl _)) rfl rfl rfl ?_
    refine ExD.take (i := 4) rfl (by kernel_rfl) (pureVal_ok rfl) ((List.Sublist.refl _)) rfl rfl rfl ?_
    refine ExD.take (i := 5) rfl (by kernel_rfl) (pureVal_ok rfl) ((List.Sublist.refl _)) rfl rfl rfl ?_
    refine ExD.take (i := 6) rfl (by kernel_rfl) (fr_indexAddrF (Reads.old ht) encT_len rfl rfl rfl rfl rfl rfl (by omega)) ((List.Sublist.refl _)) rfl rfl rfl ?_
    refine ExD.take (i := 7) rfl (by kernel_rfl) (fr_loadN rfl rfl rfl rfl rfl (by first | exact segN (Reads.old ht) encT_len rfl zT (by omega) | exact segF (Reads.old ht) encT_len rfl zT (by omega))) ((List.Sublist.refl _)) rfl rfl rfl ?_
    refine ExD.take (i := 8) rfl (by kernel_rfl) (fr_neq_rec (eq_Tic (s.getD k zT) (s.getD k zT)) rfl rfl rfl (by kernel_rfl)) ((List.Sublist.refl _)) rfl rfl rfl ?_
    refine ExD.done (by kernel_rfl) ?_
    refine Ex.cond rfl (fun hb2 => ?_) (fun hb2 => ?_)
    · refine Ex.regSeq (ExL.pures 1 rfl ?_)
      refine ExL.nil ?_
      refine Ex.ret ?_
      refine RetQ.mk () rfl (.tmp rfl .nil) (tB (by first | rfl | (exfalso; simp_all [sameT_refl]; done))) [] (rfl) rfl (trivial)
    · refine Ex.skip ?_
      refine Ex.region (ExL.pures 1 rfl ?_)
      refine ExL.free (by first | exact fr_add64 rfl rfl rfl (by omega) | exact fr_add rfl rfl rfl) rfl rfl rfl ?_
      refine ExL.pures 1 rfl ?_
      refine ExL.nil ?_
      refine Hand.mk (k + 1) 0 [] ⟨rfl, trivial⟩ ⟨rfl, rfl, trivial⟩ (rfl) rfl (by omega) (by omega)
  · refine ExL.nil ?_
    refine Ex.cond_f rfl ?_
    refine Ex.exit ?_
    refine Ex.regSeq (ExL.pures 1 rfl ?_)
    refine ExL.nil ?_
    refine Ex.ret ?_
    refine RetQ.mk () rfl (.tmp rfl .nil) (tB (by first | rfl | (exfalso; simp_all [sameT_refl]; done))) [] (rfl) rfl (trivial)
theorem c_iFirstForgedA (s : List Int) (hu : Nums 255 s) (As : Option Addr) (cs : Nat) (hls : s.length ≤ maxLen) (l : List VTic) (hok : ∀ x ∈ l, OkTic x) (Al : Option Addr) (cl : Nat) (hll : l.length ≤ maxLen) : Ret Tryz.prog 9 [.slice As s.length cs, .slice Al l.length cl] (fun w => Rd w As (s.flatMap (eI .u8)) ∧ Rd w Al (l.flatMap encT)) (fun x : Unit => .tuple #[.int .i64 (firstForged s l).1, .int .i64 (firstForged s l).2]) (fun x => []) (fun x => True) := by
  refine Ret.of e_9 Tryz.func9 rfl Tryz.ntmps9 rfl rfl (fun w hpre => ?_)
  have hs := hpre.1.base
  have hl := hpre.2.base
  have hm0 : maxLen = 9223372036854775807 := rfl
  refine Ex.regSeq (ExL.pures 2 rfl ?_)
  refine ExL.nil ?_
  refine Ex.seq ?_
  refine Ex.regSeq (ExL.pures 2 rfl ?_)
  refine ExL.op rfl (op_ret rfl rfl rfl (c_ticketsFault s (by assumption) _ _ (by omega) l _ _ (by omega)) (Reads.get (Reads.old hs)) rfl rfl (fun x1 hx1 => ?_))
  refine ExL.pures 1 rfl ?_
  refine ExL.nil ?_
  refine Ex.regSeq (ExL.pures 1 rfl ?_)
  refine ExL.neq rfl rfl rfl rfl rfl rfl (fun h2 => ?_) (fun h2 => ?_)
  · refine ExL.nil ?_
    refine Ex.cond_t rfl ?_
    refine Ex.regSeq (ExL.pures 3 rfl ?_)
    refine ExL.nil ?_
    refine Ex.ret ?_
    refine RetQ.mk () rfl (.tmp rfl (.tmp rfl .nil)) (t2 (vI (by first | (unfold firstForged; rw [if_pos (by assumption)]; done) | (unfold firstForged; rw [if_neg (by assumption)]; first | (rw [firstB_hit (k := k) (by omega) hall (by first | exact badT_1 (by assumption) | exact badT_2 (by omega) (by omega))]; rfl) | (rw [firstB_none (k := k) (by omega) hall]; rfl)))) (vI (by first | (unfold firstForged; rw [if_pos (by assumption)]; done) | (unfold firstForged; rw [if_neg (by assumption)]; first | (rw [firstB_hit (k := k) (by omega) hall (by first | exact badT_1 (by assumption) | exact badT_2 (by omega) (by omega))]; rfl) | (rw [firstB_none (k := k) (by omega) hall]; rfl))))) [] (rfl) rfl (trivial)
  · refine ExL.nil ?_
    refine Ex.cond_f rfl ?_
    refine Ex.skip ?_
    refine Ex.seq ?_
    refine Ex.regSeq (ExL.pures 3 rfl ?_)
    refine ExL.nil ?_
    refine Ex.block ?_
    refine Ex.loopK (X := Nat) (fun k => [(17, .int .i64 k)]) (fun k => []) (fun k => k ≤ l.length ∧ ∀ i, i < k → badT s l i = false) (fun k => l.length - k) 0 [(0, _), (1, _), (15, _), (16, _)] [] 0 [] ⟨rfl, trivial⟩ ⟨rfl, rfl, rfl, rfl, trivial⟩ (rfl) rfl ⟨Nat.zero_le _, fun i hi => by omega⟩ (fun k hI => ?_)
    have hI : k ≤ l.length ∧ ∀ i, i < k → badT s l i = false := hI
    obtain ⟨hk, hall⟩ := hI
    obtain ⟨hv, hl60⟩ := tf_zero (by assumption)
    refine Ex.regSeq (ExL.pures 0 rfl ?_)
    refine ExL.lss rfl rfl rfl rfl rfl rfl (fun h3 => ?_) (fun h3 => ?_)
    · refine ExL.nil ?_
      refine Ex.seq ?_
      refine Ex.cond_t rfl ?_
      refine Ex.skip ?_
      refine Ex.seq ?_
      refine Ex.block ?_
      refine Ex.regSeq (ExL.pures 1 rfl ?_)
      refine ExL.free (fr_indexAddrF (Reads.old hl) encT_len rfl rfl rfl rfl rfl rfl (by omega)) rfl rfl rfl ?_
      refine ExL.free (fr_loadN rfl rfl rfl rfl rfl (by first | exact segN (Reads.old hl) encT_len rfl zT (by omega) | exact segF (Reads.old hl) encT_len rfl zT (by omega))) rfl rfl rfl ?_
      refine ExL.op rfl (op_alloc rfl rfl rfl rfl rfl (fun b4 => ?_))
      refine ExL.pures 1 rfl ?_
      refine ExL.op rfl (op_storeC (i := 0) rfl rfl rfl rfl rfl rfl rfl rfl rfl rfl ?_)
      refine ExL.nil ?_
      refine Ex.drawSeqM rfl ?_
      refine ExD.take (i := 0) rfl (by kernel_rfl) (pureVal_ok rfl) ((List.Sublist.refl _)) rfl rfl rfl ?_
      refine ExD.take (i := 1) rfl (by kernel_rfl) (fr_loadN rfl rfl rfl rfl rfl (SegO.whole (i := 0) rfl)) ((List.Sublist.refl _)) rfl rfl rfl ?_
      refine ExD.op (i := 2) rfl (by kernel_rfl) rfl (op_ret rfl rfl rfl (c_genuine s (by first | assumption | simp_all) (by assumption) _ _ (by omega) (l.getD k zT) (by first | assumption | exact all_at hok _ (by omega))) (Reads.get (Reads.old hs)) rfl rfl (fun x5 hx5 => ⟨(List.Sublist.refl _), ?_⟩))
      refine ExD.take (i := 3) rfl (by kernel_rfl) (pureVal_ok rfl) ((List.Sublist.refl _)) rfl rfl rfl ?_
      refine ExD.take (i := 4) rfl (by kernel_rfl) (pureVal_ok rfl) ((List.Sublist.refl _)) rfl rfl rfl ?_
      refine ExD.bool (d := 26) rfl (fun hb6 => ?_) (fun hb6 => ?_)
      · replace hb6 := nb_t hb6
        refine ExD.pass (i := 5) rfl (by kernel_rfl) ((List.Sublist.refl _)) rfl rfl rfl ?_
        refine ExD.pass (i := 6) rfl (by kernel_rfl) ((List.Sublist.refl _)) rfl rfl rfl ?_
        refine ExD.pass (i := 7) rfl (by kernel_rfl) ((List.Sublist.refl _)) rfl rfl rfl ?_
        refine ExD.pass (i := 8) rfl (by kernel_rfl) ((List.Sublist.refl _)) rfl rfl rfl ?_
        refine ExD.pass (i := 9) rfl (by kernel_rfl) ((List.Sublist.refl _)) rfl rfl rfl ?_
        refine ExD.pass (i := 10) rfl (by kernel_rfl) ((List.Sublist.refl _)) rfl rfl rfl ?_
        refine ExD.pass (i := 11) rfl (by kernel_rfl) ((List.Sublist.refl _)) rfl rfl rfl ?_
        refine ExD.pass (i := 12) rfl (by kernel_rfl) ((List.Sublist.refl _)) rfl rfl rfl ?_
        refine ExD.pass (i := 13) rfl (by kernel_rfl) ((List.Sublist.refl _)) rfl rfl rfl ?_
        refine ExD.pass (i := 14) rfl (by kernel_rfl) ((List.Sublist.refl _)) rfl rfl rfl ?_
        refine ExD.pass (i := 15) rfl (by kernel_rfl) ((List.Sublist.refl _)) rfl rfl rfl ?_
        refine ExD.pass (i := 16) rfl (by kernel_rfl) ((List.Sublist.refl _)) rfl rfl rfl ?_
        refine ExD.pass (i := 17) rfl (by kernel_rfl) ((List.Sublist.refl _)) rfl rfl rfl ?_
        refine ExD.take (i := 18) rfl (by kernel_rfl) (pureVal_ok rfl) ((List.Sublist.refl _)) rfl rfl rfl ?_
        refine ExD.done (by kernel_rfl) ?_
        refine Ex.cond_t rfl ?_
        refine Ex.regSeq (ExL.pures 3 rfl ?_)
        refine ExL.nil ?_
        refine Ex.ret ?_
        refine RetQ.mk () rfl (.tmp rfl (.tmp rfl .nil)) (t2 (vI (by first | (unfold firstForged; rw [if_pos (by assumption)]; done) | (unfold firstForged; rw [if_neg (by assumption)]; first | (rw [firstB_hit (k := k) (by omega) hall (by first | exact badT_1 (by assumption) | exact badT_2 (by omega) (by omega))]; rfl) | (rw [firstB_none (k := k) (by omega) hall]; rfl)))) (vI (by first | (unfold firstForged; rw [if_pos (by assumption)]; done) | (unfold firstForged; rw [if_neg (by assumption)]; first | (rw [firstB_hit (k := k) (by omega) hall (by first | exact badT_1 (by assumption) | exact badT_2 (by omega) (by omega))]; rfl) | (rw [firstB_none (k := k) (by omega) hall]; rfl))))) [] (rfl) rfl (trivial)
      · replace hb6 := nb_f hb6
        refine ExD.take (i := 5) rfl (by kernel_rfl) (pureVal_ok rfl) ((List.Sublist.refl _)) rfl rfl rfl ?_
        refine ExD.cmp_gtr (i := 6) rfl (by kernel_rfl) rfl rfl rfl ((List.Sublist.refl _)) rfl rfl rfl (fun h7 => ?_) (fun h7 => ?_)
        · refine ExD.take (i := 7) rfl (by kernel_rfl) (pureVal_ok rfl) ((List.Sublist.refl _)) rfl rfl rfl ?_
          refine ExD.take (i := 8) rfl (by kernel_rfl) (pureVal_ok rfl) ((List.Sublist.refl _)) rfl rfl rfl ?_
          refine ExD.take (i := 9) rfl (by kernel_rfl) (pureVal_ok rfl) ((List.Sublist.refl _)) rfl rfl rfl ?_
          refine ExD.take (i := 10) rfl (by kernel_rfl) (by first | exact fr_sub64 rfl rfl rfl (by omega) | exact fr_sub rfl rfl rfl) ((List.Sublist.refl _)) rfl rfl rfl ?_
          refine ExD.take (i := 11) rfl (by kernel_rfl) (fr_indexAddrF (Reads.old hl) encT_len rfl rfl rfl rfl rfl rfl (by omega)) ((List.Sublist.refl _)) rfl rfl rfl ?_
          refine ExD.take (i := 12) rfl (by kernel_rfl) (fr_fieldAddrF (i := ((↑k - 1) : Int).toNat) (Reads.old hl) encT_len rfl rfl rfl (by omega) rfl rfl rfl rfl) ((List.Sublist.refl _)) rfl rfl rfl ?_
          refine ExD.take (i := 13) rfl (by kernel_rfl) (fr_load rfl rfl rfl rfl (cellJ ((k - 1)) (Reads.old hl) encT_len zT 0 rfl (by omega) (by omega) rfl)) ((List.Sublist.refl _)) rfl rfl rfl ?_
          refine ExD.take (i := 14) rfl (by kernel_rfl) (pureVal_ok rfl) ((List.Sublist.refl _)) rfl rfl rfl ?_
          refine ExD.take (i := 15) rfl (by kernel_rfl) (fr_load rfl rfl rfl rfl (CellO.blk (i := 0) rfl rfl)) ((List.Sublist.refl _)) rfl rfl rfl ?_
          refine ExD.cmp_geq (i := 16) rfl (by kernel_rfl) rfl rfl rfl ((List.Sublist.refl _)) rfl rfl rfl (fun h8 => ?_) (fun h8 => ?_)
          · refine ExD.take (i := 17) rfl (by kernel_rfl) (pureVal_ok rfl) ((List.Sublist.refl _)) rfl rfl rfl ?_
            refine ExD.take (i := 18) rfl (by kernel_rfl) (pureVal_ok rfl) ((List.Sublist.refl _)) rfl rfl rfl ?_
            refine ExD.done (by kernel_rfl) ?_
            refine Ex.cond_t rfl ?_
            refine Ex.regSeq (ExL.pures 3 rfl ?_)
            refine ExL.nil ?_
            refine Ex.ret ?_
            refine RetQ.mk () rfl (.tmp rfl (.tmp rfl .nil)) (t2 (vI (by first | (unfold firstForged; rw [if_pos (by assumption)]; done) | (unfold firstForged; rw [if_neg (by assumption)]; first | (rw [firstB_hit (k := k) (by omega) hall (by first | exact badT_1 (by assumption) | exact badT_2 (by omega) (by omega))]; rfl) | (rw [firstB_none (k := k) (by omega) hall]; rfl)))) (vI (by first | (unfold firstForged; rw [if_pos (by assumption)]; done) | (unfold firstForged; rw [if_neg (by assumption)]; first | (rw [firstB_hit (k := k) (by omega) hall (by first | exact badT_1 (by assumption) | exact badT_2 (by omega) (by omega))]; rfl) | (rw [firstB_none (k := k) (by omega) hall]; rfl))))) [] (rfl) rfl (trivial)
          · refine ExD.take (i := 17) rfl (by kernel_rfl) (pureVal_ok rfl) ((List.Sublist.refl _)) rfl rfl rfl ?_
            refine ExD.take (i := 18) rfl (by kernel_rfl) (pureVal_ok rfl) ((List.Sublist.refl _)) rfl rfl rfl ?_
            refine ExD.done (by kernel_rfl) ?_
            refine Ex.cond_f rfl ?_
            refine Ex.skip ?_
            refine Ex.region (ExL.pures 0 rfl ?_)
            refine ExL.free (by first | exact fr_add64 rfl rfl rfl (by omega) | exact fr_add rfl rfl rfl) rfl rfl rfl ?_
            refine ExL.pures 1 rfl ?_
            refine ExL.nil ?_
            refine Hand.mk (k + 1) 1 [] ⟨rfl, trivial⟩ ⟨rfl, rfl, rfl, rfl, trivial⟩ (rfl) rfl (⟨by omega, all_snoc hall (badT_f (by assumption) (by omega))⟩) (by omega)
        · refine ExD.take (i := 7) rfl (by kernel_rfl) (pureVal_ok rfl) ((List.Sublist.refl _)) rfl rfl rfl ?_
          refine ExD.pass (i := 8) rfl (by kernel_rfl) ((List.Sublist.refl _)) rfl rfl rfl ?_
          refine ExD.pass (i := 9) rfl (by kernel_rfl) ((List.Sublist.refl _)) rfl rfl rfl ?_
          refine ExD.pass (i := 10) rfl (by kernel_rfl) ((List.Sublist.refl _)) rfl rfl rfl ?_
          refine ExD.pass (i := 11) rfl (by kernel_rfl) ((List.Sublist.refl _)) rfl rfl rfl ?_
          refine ExD.pass (i := 12) rfl (by kernel_rfl) ((List.Sublist.refl _)) rfl rfl rfl ?_
          refine ExD.pass (i := 13) rfl (by kernel_rfl) ((List.Sublist.refl _)) rfl rfl rfl ?_
          refine ExD.pass (i := 14) rfl (by kernel_rfl) ((List.Sublist.refl _)) rfl rfl rfl ?_
          refine ExD.pass (i := 15) rfl (by kernel_rfl) ((List.Sublist.refl _)) rfl rfl rfl ?_
          refine ExD.pass (i := 16) rfl (by kernel_rfl) ((List.Sublist.refl _)) rfl rfl rfl ?_
          refine ExD.take (i := 17) rfl (by kernel_rfl) (pureVal_ok rfl) ((List.Sublist.refl _)) rfl rfl rfl ?_
          refine ExD.take (i := 18) rfl (by kernel_rfl) (pureVal_ok rfl) ((List.Sublist.refl _)) rfl rfl rfl ?_
          refine ExD.done (by kernel_rfl) ?_
          refine Ex.cond_f rfl ?_
          refine Ex.skip ?_
          refine Ex.region (ExL.pures 0 rfl ?_)
          refine ExL.free (by first | exact fr_add64 rfl rfl rfl (by omega) | exact fr_add rfl rfl rfl) rfl rfl rfl ?_
          refine ExL.pures 1 rfl ?_
          refine ExL.nil ?_
          refine Hand.mk (k + 1) 1 [] ⟨rfl, trivial⟩ ⟨rfl, rfl, rfl, rfl, trivial⟩ (rfl) rfl (⟨by omega, all_snoc hall (badT_f (by assumption) (by omega))⟩) (by omega)
    · refine ExL.nil ?_
      refine Ex.seq ?_
      refine Ex.cond_f rfl ?_
      refine Ex.exit ?_
      refine Ex.regSeq (ExL.pures 2 rfl ?_)
      refine ExL.nil ?_
      refine Ex.ret ?_
      refine RetQ.mk () rfl (.tmp rfl (.tmp rfl .nil)) (t2 (vI (by first | (unfold firstForged; rw [if_pos (by assumption)]; done) | (unfold firstForged; rw [if_neg (by assumption)]; first | (rw [firstB_hit (k := k) (by omega) hall (by first | exact badT_1 (by assumption) | exact badT_2 (by omega) (by omega))]; rfl) | (rw [firstB_none (k := k) (by omega) hall]; rfl)))) (vI (by first | (unfold firstForged; rw [if_pos (by assumption)]; done) | (unfold firstForged; rw [if_neg (by assumption)]; first | (rw [firstB_hit (k := k) (by omega) hall (by first | exact badT_1 (by assumption) | exact badT_2 (by omega) (by omega))]; rfl) | (rw [firstB_none (k := k) (by omega) hall]; rfl))))) [] (rfl) rfl (trivial)
theorem c_iMissingA (s : List Int) (hu : Nums 255 s) (As : Option Addr) (cs : Nat) (hls : s.length ≤ maxLen) (l : List VTic) (hok : ∀ x ∈ l, OkTic x) (Al : Option Addr) (cl : Nat) (hll : l.length ≤ maxLen) : Ret Tryz.prog 15 [.slice As s.length cs, .slice Al l.length cl] (fun w => Rd w As (s.flatMap (eI .u8)) ∧ Rd w Al (l.flatMap encT)) (fun x : Option Addr × Nat => .tuple #[.slice x.1 (missV s l).1.length x.2, .int .i64 (missV s l).2]) (fun x => [.row (.slice x.1 (missV s l).1.length x.2) 2 1 (missV s l).1.length ((missV s l).1.flatMap (eI .i64))]) (fun x => True) := by
  refine Ret.of e_15 Tryz.func15 rfl Tryz.ntmps15 rfl rfl (fun w hpre => ?_)
  have hs := hpre.1.base
  have hl := hpre.2.base
  have hm0 : maxLen = 9223372036854775807 := rfl
  refine Ex.regSeq (ExL.pures 2 rfl ?_)
  refine ExL.nil ?_
  refine Ex.seq ?_
  refine Ex.regSeq (ExL.pures 2 rfl ?_)
  refine ExL.op rfl (op_ret rfl rfl rfl (c_ticketsFault s (by assumption) _ _ (by omega) l _ _ (by omega)) (Reads.get (Reads.old hs)) rfl rfl (fun x1 hx1 => ?_))
  refine ExL.pures 1 rfl ?_
  refine ExL.nil ?_
  refine Ex.regSeq (ExL.pures 1 rfl ?_)
  refine ExL.neq rfl rfl rfl rfl rfl rfl (fun h2 => ?_) (fun h2 => ?_)
  · refine ExL.nil ?_
    refine Ex.cond_t rfl ?_
    refine Ex.regSeq (ExL.pures 3 rfl ?_)
    refine ExL.nil ?_
    refine Ex.nilRow 2 1 ?_
    refine Ex.ret ?_
    refine RetQ.mk (none, 0) rfl (.tmp rfl (.tmp rfl .nil)) (t2 (by first | (rw [mi_tf (by assumption)]; first | done | rfl) | (rw [mi_bad (k := k) htf (by omega) hall (gbad (by assumption))]; first | done | rfl) | (rw [mi_far (k := k) htf hkn hall (by assumption)]; first | done | rfl) | (rw [mi_ok (k := k) (j := j) htf hkn hall (by assumption) (by omega)]; first | done | rfl)) (by first | (rw [mi_tf (by assumption)]; first | done | rfl) | (rw [mi_bad (k := k) htf (by omega) hall (gbad (by assumption))]; first | done | rfl) | (rw [mi_far (k := k) htf hkn hall (by assumption)]; first | done | rfl) | (rw [mi_ok (k := k) (j := j) htf hkn hall (by assumption) (by omega)]; first | done | rfl))) [0] (by first | (rw [mi_tf (by assumption)]; first | done | rfl) | (rw [mi_bad (k := k) htf (by omega) hall (gbad (by assumption))]; first | done | rfl) | (rw [mi_far (k := k) htf hkn hall (by assumption)]; first | done | rfl) | (rw [mi_ok (k := k) (j := j) htf hkn hall (by assumption) (by omega)]; first | done | rfl)) rfl (trivial)
  · refine ExL.nil ?_
    refine Ex.cond_f rfl ?_
    refine Ex.skip ?_
    refine Ex.regSeq (ExL.pures 0 rfl ?_)
    refine ExL.op rfl (op_makeMap rfl rfl rfl (fun b3 hm0 => ?_))
    refine ExL.pures 2 rfl ?_
    refine ExL.nil ?_
    refine Ex.seq ?_
    refine Ex.regSeq (ExL.pures 3 rfl ?_)
    refine ExL.nil ?_
    refine Ex.block ?_
    have htf : ¬ tfault s l.length ≠ 0 := (by first | assumption | exact not_not_intro (by assumption))
    obtain ⟨hv, hl60⟩ := tf_zero htf
    refine Ex.loopK (X := Nat) (fun k => [(8, .int .i64 (mostL l k)), (22, .int .i64 k)]) (fun k => [.mset b3 (numsL l k)]) (fun k => k ≤ l.length ∧ ∀ i, i < k → badG s l i = false) (fun k => l.length - k) 0 [(0, _), (7, _), (20, _), (21, _)] [] 1 [0] ⟨rfl, rfl, trivial⟩ ⟨rfl, rfl, rfl, rfl, trivial⟩ (rfl) rfl ⟨Nat.zero_le _, fun i hi => by omega⟩ (fun k hI => ?_)
    have hI : k ≤ l.length ∧ ∀ i, i < k → badG s l i = false := hI
    obtain ⟨hk, hall⟩ := hI
    have hmb := most_bd k hall
    have hnl := numsL_len l k
    refine Ex.regSeq (ExL.pures 0 rfl ?_)
    refine ExL.lss rfl rfl rfl rfl rfl rfl (fun h4 => ?_) (fun h4 => ?_)
    · refine ExL.nil ?_
      refine Ex.seq ?_
      refine Ex.cond_t rfl ?_
      refine Ex.skip ?_
      refine Ex.seq ?_
      refine Ex.block ?_
      refine Ex.regSeq (ExL.pures 0 rfl ?_)
      refine ExL.free (fr_indexAddrF (Reads.old hl) encT_len rfl rfl rfl rfl rfl rfl (by omega)) rfl rfl rfl ?_
      refine ExL.free (fr_loadN rfl rfl rfl rfl rfl (by first | exact segN (Reads.old hl) encT_len rfl zT (by omega) | exact segF (Reads.old hl) encT_len rfl zT (by omega))) rfl rfl rfl ?_
      refine ExL.op rfl (op_alloc rfl rfl rfl rfl rfl (fun b5 => ?_))
      refine ExL.op rfl (op_storeC (i := 0) rfl rfl rfl rfl rfl rfl rfl rfl rfl rfl ?_)
      refine ExL.nil ?_
      refine Ex.seq ?_
      refine Ex.regSeq (ExL.pures 1 rfl ?_)
      refine ExL.free (fr_loadN rfl rfl rfl rfl rfl (SegO.whole (i := 0) rfl)) rfl rfl rfl ?_
      refine ExL.op rfl (op_ret rfl rfl rfl (c_genuine s (by first | assumption | simp_all) (by assumption) _ _ (by omega) (l.getD k zT) (by first | assumption | exact all_at hok _ (by omega))) (Reads.get (Reads.old hs)) rfl rfl (fun x6 hx6 => ?_))
      refine ExL.pures 1 rfl ?_
      refine ExL.nil ?_
      refine Ex.cond rfl (fun hb7 => ?_) (fun hb7 => ?_)
      · replace hb7 := nb_t hb7
        refine Ex.regSeq (ExL.pures 2 rfl ?_)
        refine ExL.nil ?_
        refine Ex.nilRow 2 1 ?_
        refine Ex.ret ?_
        refine RetQ.mk (none, 0) rfl (.tmp rfl (.tmp rfl .nil)) (t2 (by first | (rw [mi_tf (by assumption)]; first | done | rfl) | (rw [mi_bad (k := k) htf (by omega) hall (gbad (by assumption))]; first | done | rfl) | (rw [mi_far (k := k) htf hkn hall (by assumption)]; first | done | rfl) | (rw [mi_ok (k := k) (j := j) htf hkn hall (by assumption) (by omega)]; first | done | rfl)) (by first | (rw [mi_tf (by assumption)]; first | done | rfl) | (rw [mi_bad (k := k) htf (by omega) hall (gbad (by assumption))]; first | done | rfl) | (rw [mi_far (k := k) htf hkn hall (by assumption)]; first | done | rfl) | (rw [mi_ok (k := k) (j := j) htf hkn hall (by assumption) (by omega)]; first | done | rfl))) [0] (by first | (rw [mi_tf (by assumption)]; first | done | rfl) | (rw [mi_bad (k := k) htf (by omega) hall (gbad (by assumption))]; first | done | rfl) | (rw [mi_far (k := k) htf hkn hall (by assumption)]; first | done | rfl) | (rw [mi_ok (k := k) (j := j) htf hkn hall (by assumption) (by omega)]; first | done | rfl)) rfl (trivial)
      · replace hb7 := nb_f hb7
        refine Ex.skip ?_
        refine Ex.regSeq (ExL.pures 2 rfl ?_)
        refine ExL.free (fr_load rfl rfl rfl rfl (CellO.blk (i := 0) rfl rfl)) rfl rfl rfl ?_
        refine ExL.op rfl (op_mapUpdate (i := 1) rfl hm0 rfl rfl rfl rfl rfl rfl rfl ?_)
        refine ExL.nil ?_
        refine Ex.region (ExL.pures 2 rfl ?_)
        refine ExL.free (fr_load rfl rfl rfl rfl (CellO.blk (i := 0) rfl rfl)) rfl rfl rfl ?_
        refine ExL.free (fr_max rfl rfl rfl) rfl rfl rfl ?_
        refine ExL.pures 1 rfl ?_
        refine ExL.nil ?_
        refine Ex.region (ExL.pures 0 rfl ?_)
        refine ExL.free (by first | exact fr_add64 rfl rfl rfl (by omega) | exact fr_add rfl rfl rfl) rfl rfl rfl ?_
        refine ExL.pures 1 rfl ?_
        refine ExL.nil ?_
        refine Hand.mk (k + 1) 2 [1] ⟨rfl, rfl, trivial⟩ ⟨rfl, rfl, rfl, rfl, trivial⟩ (by rw [addK_nums]; rfl) rfl (⟨by omega, all_snoc hall (ggood (by assumption))⟩) (by omega)
    · refine ExL.nil ?_
      refine Ex.seq ?_
      refine Ex.cond_f rfl ?_
      refine Ex.exit ?_
      have hkn : k = l.length := (by omega)
      refine Ex.seq ?_
      refine Ex.regSeq (ExL.pures 2 rfl ?_)
      refine ExL.free (fr_len_mset (i := 0) rfl rfl rfl rfl) rfl rfl rfl ?_
      refine ExL.free (by first | exact fr_sub64 rfl rfl rfl (by omega) | exact fr_sub rfl rfl rfl) rfl rfl rfl ?_
      refine ExL.gtr rfl rfl rfl rfl rfl rfl (fun h8 => ?_) (fun h8 => ?_)
      · refine ExL.nil ?_
        refine Ex.cond_t rfl ?_
        refine Ex.regSeq (ExL.pures 2 rfl ?_)
        refine ExL.nil ?_
        refine Ex.nilRow 2 1 ?_
        refine Ex.ret ?_
        refine RetQ.mk (none, 0) rfl (.tmp rfl (.tmp rfl .nil)) (t2 (by first | (rw [mi_tf (by assumption)]; first | done | rfl) | (rw [mi_bad (k := k) htf (by omega) hall (gbad (by assumption))]; first | done | rfl) | (rw [mi_far (k := k) htf hkn hall (by assumption)]; first | done | rfl) | (rw [mi_ok (k := k) (j := j) htf hkn hall (by assumption) (by omega)]; first | done | rfl)) (by first | (rw [mi_tf (by assumption)]; first | done | rfl) | (rw [mi_bad (k := k) htf (by omega) hall (gbad (by assumption))]; first | done | rfl) | (rw [mi_far (k := k) htf hkn hall (by assumption)]; first | done | rfl) | (rw [mi_ok (k := k) (j := j) htf hkn hall (by assumption) (by omega)]; first | done | rfl))) [0] (by first | (rw [mi_tf (by assumption)]; first | done | rfl) | (rw [mi_bad (k := k) htf (by omega) hall (gbad (by assumption))]; first | done | rfl) | (rw [mi_far (k := k) htf hkn hall (by assumption)]; first | done | rfl) | (rw [mi_ok (k := k) (j := j) htf hkn hall (by assumption) (by omega)]; first | done | rfl)) rfl (trivial)
      · refine ExL.nil ?_
        refine Ex.cond_f rfl ?_
        refine Ex.skip ?_
        refine Ex.regSeq (ExL.pures 0 rfl ?_)
        refine ExL.op rfl (op_buildSlice (sz := 1) rfl rfl rfl rfl rfl rfl rfl rfl (by decide) rfl rfl rfl (fun r9 => ?_))
        refine ExL.pures 1 rfl ?_
        refine ExL.nil ?_
        refine Ex.seq ?_
        refine Ex.regSeq (ExL.pures 1 rfl ?_)
        refine ExL.nil ?_
        refine Ex.block ?_
        refine Ex.loopA (fun j A2 c2 => [(11, .slice A2 (lackL (numsL l k) j).length c2), (12, .int .i64 (j + 1))]) (fun j A2 c2 => [.row (.slice A2 (lackL (numsL l k) j).length c2) 2 1 (lackL (numsL l k) j).length ((lackL (numsL l k) j).flatMap (eI .i64))]) (fun j => (j : Int) ≤ mostL l k) (fun j => (mostL l k).toNat - j) 0 ((some ⟨r9, 0, none⟩)) (0) [(7, _), (8, _)] [_] 2 [0, 1] ⟨rfl, agI (by omega), trivial⟩ ⟨rfl, rfl, trivial⟩ (rfl) rfl (by omega) (fun j A2 c2 hI => ?_)
        have hI : (j : Int) ≤ mostL l k := hI
        have hll2 := lackL_len (numsL l k) j
        refine Ex.seq ?_
        refine Ex.regSeq (ExL.pures 2 rfl ?_)
        refine ExL.leq rfl rfl rfl rfl rfl rfl (fun h10 => ?_) (fun h10 => ?_)
        · refine ExL.nil ?_
          refine Ex.cond_t rfl ?_
          refine Ex.skip ?_
          refine Ex.seq ?_
          refine Ex.block ?_
          refine Ex.regSeq (ExL.pures 2 rfl ?_)
          refine ExL.free (fr_lookup_has (i := 1) rfl rfl rfl rfl rfl rfl rfl) rfl rfl rfl ?_
          refine ExL.pures 1 rfl ?_
          refine ExL.nil ?_
          refine Ex.cond rfl (fun hb11 => ?_) (fun hb11 => ?_)
          · replace hb11 := nb_t hb11
            refine Ex.region (ExL.pures 2 rfl ?_)
            refine ExL.op rfl (op_buildSlice (sz := 1) rfl rfl rfl rfl rfl rfl rfl rfl (by decide) rfl rfl rfl (fun r12 => ?_))
            refine ExL.op rfl (op_append (sz := 1) (bytes := 8) (i := 1) rfl rfl rfl rfl (Reads.row (i := 0) rfl) rfl (fun e => nomatch e) rfl rfl rfl rfl (by constructor <;> first | omega | (unfold maxLen; omega)) rfl rfl (fun A13 cA13 => ?_))
            refine ExL.pures 1 rfl ?_
            refine ExL.nil ?_
            refine Ex.region (ExL.pures 1 rfl ?_)
            refine ExL.free (by first | exact fr_add64 rfl rfl rfl (by omega) | exact fr_add rfl rfl rfl) rfl rfl rfl ?_
            refine ExL.pures 1 rfl ?_
            refine ExL.nil ?_
            refine HandA.of (j + 1) (A13) (cA13) 3 [1, 2] ⟨(by first | (rw [ll_t (by assumption)]; first | done | rfl) | (rw [ll_f (by assumption), List.length_append]; rfl)), agI (by omega), trivial⟩ ⟨rfl, rfl, trivial⟩ (by first | (rw [ll_t (by assumption)]; first | done | rfl) | (rw [ll_f (by assumption), List.length_append, List.flatMap_append]; rfl)) rfl (by omega) (by omega)
          · replace hb11 := nb_f hb11
            refine Ex.skip ?_
            refine Ex.region (ExL.pures 1 rfl ?_)
            refine ExL.free (by first | exact fr_add64 rfl rfl rfl (by omega) | exact fr_add rfl rfl rfl) rfl rfl rfl ?_
            refine ExL.pures 1 rfl ?_
            refine ExL.nil ?_
            refine HandA.of (j + 1) (A2) (c2) 2 [0, 1] ⟨(by first | (rw [ll_t (by assumption)]; first | done | rfl) | (rw [ll_f (by assumption), List.length_append]; rfl)), agI (by omega), trivial⟩ ⟨rfl, rfl, trivial⟩ (by first | (rw [ll_t (by assumption)]; first | done | rfl) | (rw [ll_f (by assumption), List.length_append, List.flatMap_append]; rfl)) rfl (by omega) (by omega)
        · refine ExL.nil ?_
          refine Ex.cond_f rfl ?_
          refine Ex.exit ?_
          refine Ex.regSeq (ExL.pures 3 rfl ?_)
          refine ExL.nil ?_
          refine Ex.ret ?_
          refine RetQ.mk (A2, c2) rfl (.tmp rfl (.tmp rfl .nil)) (t2 (by first | (rw [mi_tf (by assumption)]; first | done | rfl) | (rw [mi_bad (k := k) htf (by omega) hall (gbad (by assumption))]; first | done | rfl) | (rw [mi_far (k := k) htf hkn hall (by assumption)]; first | done | rfl) | (rw [mi_ok (k := k) (j := j) htf hkn hall (by assumption) (by omega)]; first | done | rfl)) (by first | (rw [mi_tf (by assumption)]; first | done | rfl) | (rw [mi_bad (k := k) htf (by omega) hall (gbad (by assumption))]; first | done | rfl) | (rw [mi_far (k := k) htf hkn hall (by assumption)]; first | done | rfl) | (rw [mi_ok (k := k) (j := j) htf hkn hall (by assumption) (by omega)]; first | done | rfl))) [0] (by first | (rw [mi_tf (by assumption)]; first | done | rfl) | (rw [mi_bad (k := k) htf (by omega) hall (gbad (by assumption))]; first | done | rfl) | (rw [mi_far (k := k) htf hkn hall (by assumption)]; first | done | rfl) | (rw [mi_ok (k := k) (j := j) htf hkn hall (by assumption) (by omega)]; first | done | rfl)) rfl (trivial)
end Go.Proofs.YtiibhahhjkaodaaGreatDoor

/- What these functions of the program hand back, each proved by walking its operations. -/
set_option linter.unusedVariables false
set_option linter.unusedSimpArgs false
set_option maxRecDepth 4000
namespace Go.Proofs.YtiibhahhjkaodaaGreatDoor
open Go Go.Sx Go.RowKit Go.W Go.Proofs
attribute [local irreducible] Ex ExL ExD Op1 Free RetQ MutQ Reads CellO SegO LoadsAs
end Go.Proofs.YtiibhahhjkaodaaGreatDoor

/- What these functions of the program hand back, each proved by walking its operations. -/
set_option linter.unusedVariables false
set_option linter.unusedSimpArgs false
set_option maxRecDepth 4000
namespace Go.Proofs.YtiibhahhjkaodaaGreatDoor
open Go Go.Sx Go.RowKit Go.W Go.Proofs
attribute [local irreducible] Ex ExL ExD Op1 Free RetQ MutQ Reads CellO SegO LoadsAs
end Go.Proofs.YtiibhahhjkaodaaGreatDoor

/- What these functions of the program hand back, each proved by walking its operations. -/
set_option linter.unusedVariables false
set_option linter.unusedSimpArgs false
set_option maxRecDepth 4000
namespace Go.Proofs.YtiibhahhjkaodaaGreatDoor
open Go Go.Sx Go.RowKit Go.W Go.Proofs
attribute [local irreducible] Ex ExL ExD Op1 Free RetQ MutQ Reads CellO SegO LoadsAs
theorem e_45 : Enters Tryz.prog 45 := Enters.of Tryz.func45 rfl
theorem c_next (code : List Int) (Ac : Option Addr) (cc : Nat) (hcl : code.length ≤ maxLen) (hcu : Nums 255 code) (b : Nat) (at_ sd : Int) (hat : 0 ≤ at_ ∧ at_ ≤ 2000000000) : Mut Tryz.prog 45 [.pointer (some ⟨b, 0, none⟩)] [.blk b [.slice Ac code.length cc, .int .i64 at_, .int .u64 sd] 96] (fun base w0 F => RdB base w0 Ac (code.flatMap (eI .u8))) (fun x : Int × Int => .int .i64 x.1) (fun x => [.blk b [.slice Ac code.length cc, .int .i64 (at_ + 1), .int .u64 x.2] 96]) (fun x => 0 ≤ x.1 ∧ x.1 ≤ 255) := by
  refine Mut.of e_45 Tryz.func45 rfl Tryz.ntmps45 rfl rfl (fun base w0 F hfr => ?_)
  have hcode := hfr
  have hx := hcu.at_ (by omega) at_.toNat
  have hm0 : maxLen = 9223372036854775807 := rfl
  refine Ex.regSeq (ExL.pures 1 rfl ?_)
  refine ExL.nil ?_
  refine Ex.regSeq (ExL.pures 1 rfl ?_)
  refine ExL.nil ?_
  refine Ex.seq ?_
  refine Ex.drawSeqM rfl ?_
  refine ExD.take (i := 0) rfl (by kernel_rfl) (pureVal_ok rfl) ((List.Sublist.refl _)) rfl rfl rfl ?_
  refine ExD.take (i := 1) rfl (by kernel_rfl) (pureVal_ok rfl) ((List.Sublist.refl _)) rfl rfl rfl ?_
  refine ExD.take (i := 2) rfl (by kernel_rfl) (pureVal_ok rfl) ((List.Sublist.refl _)) rfl rfl rfl ?_
  refine ExD.take (i := 3) rfl (by kernel_rfl) (fr_load rfl rfl rfl rfl (CellO.blk (i := 0) rfl rfl)) ((List.Sublist.refl _)) rfl rfl rfl ?_
  refine ExD.take (i := 4) rfl (by kernel_rfl) (pureVal_ok rfl) ((List.Sublist.refl _)) rfl rfl rfl ?_
  refine ExD.take (i := 5) rfl (by kernel_rfl) (pureVal_ok rfl) ((List.Sublist.refl _)) rfl rfl rfl ?_
  refine ExD.take (i := 6) rfl (by kernel_rfl) (pureVal_ok rfl) ((List.Sublist.refl _)) rfl rfl rfl ?_
  refine ExD.take (i := 7) rfl (by kernel_rfl) (fr_load rfl rfl rfl rfl (CellO.blk (i := 0) rfl rfl)) ((List.Sublist.refl _)) rfl rfl rfl ?_
  refine ExD.take (i := 8) rfl (by kernel_rfl) (pureVal_ok rfl) ((List.Sublist.refl _)) rfl rfl rfl ?_
  refine ExD.cmp_lss (i := 9) rfl (by kernel_rfl) rfl rfl rfl ((List.Sublist.refl _)) rfl rfl rfl (fun h1 => ?_) (fun h1 => ?_)
  · refine ExD.done (by kernel_rfl) ?_
    refine Ex.cond_t rfl ?_
    refine Ex.drawM rfl ?_
    refine ExD.take (i := 0) rfl (by kernel_rfl) (pureVal_ok rfl) ((List.Sublist.refl _)) rfl rfl rfl ?_
    refine ExD.take (i := 1) rfl (by kernel_rfl) (pureVal_ok rfl) ((List.Sublist.refl _)) rfl rfl rfl ?_
    refine ExD.take (i := 2) rfl (by kernel_rfl) (pureVal_ok rfl) ((List.Sublist.refl _)) rfl rfl rfl ?_
    refine ExD.take (i := 3) rfl (by kernel_rfl) (fr_load rfl rfl rfl rfl (CellO.blk (i := 0) rfl rfl)) ((List.Sublist.refl _)) rfl rfl rfl ?_
    refine ExD.take (i := 4) rfl (by kernel_rfl) (pureVal_ok rfl) ((List.Sublist.refl _)) rfl rfl rfl ?_
    refine ExD.take (i := 5) rfl (by kernel_rfl) (pureVal_ok rfl) ((List.Sublist.refl _)) rfl rfl rfl ?_
    refine ExD.take (i := 6) rfl (by kernel_rfl) (pureVal_ok rfl) ((List.Sublist.refl _)) rfl rfl rfl ?_
    refine ExD.take (i := 7) rfl (by kernel_rfl) (fr_load rfl rfl rfl rfl (CellO.blk (i := 0) rfl rfl)) ((List.Sublist.refl _)) rfl rfl rfl ?_
    refine ExD.take (i := 8) rfl (by kernel_rfl) (fr_indexAddrF (Reads.old hcode) (eI_len .u8) rfl rfl rfl rfl rfl rfl (by omega)) ((List.Sublist.refl _)) rfl rfl rfl ?_
    refine ExD.take (i := 9) rfl (by kernel_rfl) (fr_load rfl rfl rfl rfl (by first | exact cellN (Reads.old hcode) (eI_len .u8) 0 0 rfl (by omega) rfl | exact cellF (Reads.old hcode) (eI_len .u8) 0 0 rfl (by omega) rfl)) ((List.Sublist.refl _)) rfl rfl rfl ?_
    refine ExD.take (i := 10) rfl (by kernel_rfl) (by first | exact fr_conv64 rfl rfl rfl rfl (by omega) | exact fr_conv rfl rfl rfl rfl) ((List.Sublist.refl _)) rfl rfl rfl ?_
    refine ExD.take (i := 11) rfl (by kernel_rfl) (pureVal_ok rfl) ((List.Sublist.refl _)) rfl rfl rfl ?_
    refine ExD.done (by kernel_rfl) ?_
    refine Ex.regSeq (ExL.pures 3 rfl ?_)
    refine ExL.free (fr_load rfl rfl rfl rfl (CellO.blk (i := 0) rfl rfl)) rfl rfl rfl ?_
    refine ExL.free (by first | exact fr_add64 rfl rfl rfl (by omega) | exact fr_add rfl rfl rfl) rfl rfl rfl ?_
    refine ExL.pures 2 rfl ?_
    refine ExL.op rfl (op_storeC (i := 0) rfl rfl rfl rfl rfl rfl rfl rfl rfl rfl ?_)
    refine ExL.nil ?_
    refine Ex.regSeq (ExL.pures 4 rfl ?_)
    refine ExL.free (fr_load rfl rfl rfl rfl (CellO.blk (i := 0) rfl rfl)) rfl rfl rfl ?_
    refine ExL.free (fr_mul rfl rfl rfl) rfl rfl rfl ?_
    refine ExL.pures 1 rfl ?_
    refine ExL.free (by first | exact fr_conv_u64 rfl rfl rfl rfl (by omega) | exact fr_conv rfl rfl rfl rfl) rfl rfl rfl ?_
    refine ExL.free (fr_add rfl rfl rfl) rfl rfl rfl ?_
    refine ExL.free (fr_add rfl rfl rfl) rfl rfl rfl ?_
    refine ExL.pures 2 rfl ?_
    refine ExL.op rfl (op_storeC (i := 0) rfl rfl rfl rfl rfl rfl rfl rfl rfl rfl ?_)
    refine ExL.nil ?_
    refine Ex.seq ?_
    refine Ex.drawSeqM rfl ?_
    refine ExD.take (i := 0) rfl (by kernel_rfl) (pureVal_ok rfl) ((List.Sublist.refl _)) rfl rfl rfl ?_
    refine ExD.take (i := 1) rfl (by kernel_rfl) (pureVal_ok rfl) ((List.Sublist.refl _)) rfl rfl rfl ?_
    refine ExD.take (i := 2) rfl (by kernel_rfl) (pureVal_ok rfl) ((List.Sublist.refl _)) rfl rfl rfl ?_
    refine ExD.take (i := 3) rfl (by kernel_rfl) (fr_load rfl rfl rfl rfl (CellO.blk (i := 0) rfl rfl)) ((List.Sublist.refl _)) rfl rfl rfl ?_
    refine ExD.take (i := 4) rfl (by kernel_rfl) (pureVal_ok rfl) ((List.Sublist.refl _)) rfl rfl rfl ?_
    refine ExD.take (i := 5) rfl (by kernel_rfl) (pureVal_ok rfl) ((List.Sublist.refl _)) rfl rfl rfl ?_
    refine ExD.take (i := 6) rfl (by kernel_rfl) (pureVal_ok rfl) ((List.Sublist.refl _)) rfl rfl rfl ?_
    refine ExD.take (i := 7) rfl (by kernel_rfl) (fr_load rfl rfl rfl rfl (CellO.blk (i := 0) rfl rfl)) ((List.Sublist.refl _)) rfl rfl rfl ?_
    refine ExD.take (i := 8) rfl (by kernel_rfl) (pureVal_ok rfl) ((List.Sublist.refl _)) rfl rfl rfl ?_
    refine ExD.cmp_leq (i := 9) rfl (by kernel_rfl) rfl rfl rfl ((List.Sublist.refl _)) rfl rfl rfl (fun h2 => ?_) (fun h2 => ?_)
    · refine ExD.done (by kernel_rfl) ?_
      refine Ex.cond_t rfl ?_
      refine Ex.regSeq (ExL.pures 2 rfl ?_)
      refine ExL.nil ?_
      refine Ex.ret ?_
      refine MutQ.mk (_, _) rfl (.tmp rfl .nil) (rfl) 1 [0] (rfl) rfl (by refine ⟨?_, ?_⟩ <;> first | exact hx.1 | exact hx.2 | (dsimp only; omega))
    · refine ExD.done (by kernel_rfl) ?_
      refine Ex.cond_f rfl ?_
      refine Ex.skip ?_
      refine Ex.regSeq (ExL.pures 3 rfl ?_)
      refine ExL.free (fr_load rfl rfl rfl rfl (CellO.blk (i := 0) rfl rfl)) rfl rfl rfl ?_
      refine ExL.free (fr_shr40 rfl rfl rfl) rfl rfl rfl ?_
      refine ExL.free (fr_and255w rfl rfl rfl) rfl rfl rfl ?_
      refine ExL.free (by first | exact fr_conv64 rfl rfl rfl rfl (by omega) | exact fr_conv rfl rfl rfl rfl) rfl rfl rfl ?_
      refine ExL.pures 1 rfl ?_
      refine ExL.nil ?_
      refine Ex.ret ?_
      refine MutQ.mk (_, _) rfl (.tmp rfl .nil) (rfl) 1 [0] (rfl) rfl (by refine ⟨?_, ?_⟩ <;> first | exact hx.1 | exact hx.2 | (dsimp only; omega))
  · refine ExD.done (by kernel_rfl) ?_
    refine Ex.cond_f rfl ?_
    refine Ex.skip ?_
    refine Ex.regSeq (ExL.pures 3 rfl ?_)
    refine ExL.free (fr_load rfl rfl rfl rfl (CellO.blk (i := 0) rfl rfl)) rfl rfl rfl ?_
    refine ExL.free (by first | exact fr_add64 rfl rfl rfl (by omega) | exact fr_add rfl rfl rfl) rfl rfl rfl ?_
    refine ExL.pures 2 rfl ?_
    refine ExL.op rfl (op_storeC (i := 0) rfl rfl rfl rfl rfl rfl rfl rfl rfl rfl ?_)
    refine ExL.nil ?_
    refine Ex.regSeq (ExL.pures 4 rfl ?_)
    refine ExL.free (fr_load rfl rfl rfl rfl (CellO.blk (i := 0) rfl rfl)) rfl rfl rfl ?_
    refine ExL.free (fr_mul rfl rfl rfl) rfl rfl rfl ?_
    refine ExL.pures 1 rfl ?_
    refine ExL.free (by first | exact fr_conv_u64 rfl rfl rfl rfl (by omega) | exact fr_conv rfl rfl rfl rfl) rfl rfl rfl ?_
    refine ExL.free (fr_add rfl rfl rfl) rfl rfl rfl ?_
    refine ExL.free (fr_add rfl rfl rfl) rfl rfl rfl ?_
    refine ExL.pures 2 rfl ?_
    refine ExL.op rfl (op_storeC (i := 0) rfl rfl rfl rfl rfl rfl rfl rfl rfl rfl ?_)
    refine ExL.nil ?_
    refine Ex.seq ?_
    refine Ex.drawSeqM rfl ?_
    refine ExD.take (i := 0) rfl (by kernel_rfl) (pureVal_ok rfl) ((List.Sublist.refl _)) rfl rfl rfl ?_
    refine ExD.take (i := 1) rfl (by kernel_rfl) (pureVal_ok rfl) ((List.Sublist.refl _)) rfl rfl rfl ?_
    refine ExD.take (i := 2) rfl (by kernel_rfl) (pureVal_ok rfl) ((List.Sublist.refl _)) rfl rfl rfl ?_
    refine ExD.take (i := 3) rfl (by kernel_rfl) (fr_load rfl rfl rfl rfl (CellO.blk (i := 0) rfl rfl)) ((List.Sublist.refl _)) rfl rfl rfl ?_
    refine ExD.take (i := 4) rfl (by kernel_rfl) (pureVal_ok rfl) ((List.Sublist.refl _)) rfl rfl rfl ?_
    refine ExD.take (i := 5) rfl (by kernel_rfl) (pureVal_ok rfl) ((List.Sublist.refl _)) rfl rfl rfl ?_
    refine ExD.take (i := 6) rfl (by kernel_rfl) (pureVal_ok rfl) ((List.Sublist.refl _)) rfl rfl rfl ?_
    refine ExD.take (i := 7) rfl (by kernel_rfl) (fr_load rfl rfl rfl rfl (CellO.blk (i := 0) rfl rfl)) ((List.Sublist.refl _)) rfl rfl rfl ?_
    refine ExD.take (i := 8) rfl (by kernel_rfl) (pureVal_ok rfl) ((List.Sublist.refl _)) rfl rfl rfl ?_
    refine ExD.cmp_leq (i := 9) rfl (by kernel_rfl) rfl rfl rfl ((List.Sublist.refl _)) rfl rfl rfl (fun h3 => ?_) (fun h3 => ?_)
    · refine ExD.done (by kernel_rfl) ?_
      refine Ex.cond_t rfl ?_
      refine Ex.regSeq (ExL.pures 2 rfl ?_)
      refine ExL.nil ?_
      refine Ex.ret ?_
      refine MutQ.mk (_, _) rfl (.tmp rfl .nil) (rfl) 1 [0] (rfl) rfl (by refine ⟨?_, ?_⟩ <;> first | exact hx.1 | exact hx.2 | (dsimp only; omega))
    · refine ExD.done (by kernel_rfl) ?_
      refine Ex.cond_f rfl ?_
      refine Ex.skip ?_
      refine Ex.regSeq (ExL.pures 3 rfl ?_)
      refine ExL.free (fr_load rfl rfl rfl rfl (CellO.blk (i := 0) rfl rfl)) rfl rfl rfl ?_
      refine ExL.free (fr_shr40 rfl rfl rfl) rfl rfl rfl ?_
      refine ExL.free (fr_and255w rfl rfl rfl) rfl rfl rfl ?_
      refine ExL.free (by first | exact fr_conv64 rfl rfl rfl rfl (by omega) | exact fr_conv rfl rfl rfl rfl) rfl rfl rfl ?_
      refine ExL.pures 1 rfl ?_
      refine ExL.nil ?_
      refine Ex.ret ?_
      refine MutQ.mk (_, _) rfl (.tmp rfl .nil) (rfl) 1 [0] (rfl) rfl (by refine ⟨?_, ?_⟩ <;> first | exact hx.1 | exact hx.2 | (dsimp only; omega))
theorem e_22 : Enters Tryz.prog 22 := Enters.of Tryz.func22 rfl
theorem c_pick (code : List Int) (Ac : Option Addr) (cc : Nat) (hcl : code.length ≤ maxLen) (hcu : Nums 255 code) (b : Nat) (at_ sd : Int) (hat : 0 ≤ at_ ∧ at_ ≤ 1000000000) (n : Int) (hn : n ≤ 9223372036854775807) : Mut Tryz.prog 22 [.pointer (some ⟨b, 0, none⟩), .int .i64 n] [.blk b [.slice Ac code.length cc, .int .i64 at_, .int .u64 sd] 96] (fun base w0 F => RdB base w0 Ac (code.flatMap (eI .u8))) (fun x : Int × Int × Int => .int .i64 x.1) (fun x => [.blk b [.slice Ac code.length cc, .int .i64 x.2.1, .int .u64 x.2.2] 96]) (fun x => 0 ≤ x.1 ∧ (x.1 < n ∨ x.1 = 0) ∧ at_ ≤ x.2.1 ∧ x.2.1 ≤ at_ + 2 ∧ x.1 ≤ 65535) := by
  refine Mut.of e_22 Tryz.func22 rfl Tryz.ntmps22 rfl rfl (fun base w0 F hfr => ?_)
  have hcode := hfr
  have hm0 : maxLen = 9223372036854775807 := rfl
  refine Ex.regSeq (ExL.pures 1 rfl ?_)
  refine ExL.nil ?_
  refine Ex.seq ?_
  refine Ex.regSeq (ExL.pures 1 rfl ?_)
  refine ExL.leq rfl rfl rfl rfl rfl rfl (fun h1 => ?_) (fun h1 => ?_)
  · refine ExL.nil ?_
    refine Ex.cond_t rfl ?_
    refine Ex.regSeq (ExL.pures 1 rfl ?_)
    refine ExL.nil ?_
    refine Ex.ret ?_
    refine MutQ.mk (_, _, _) rfl (.tmp rfl .nil) (rfl) 1 [0] (rfl) rfl (by refine ⟨?_, ?_, ?_, ?_, ?_⟩ <;> first | exact hm1 _ | exact .inl (hm2 _) | (dsimp only; omega) | (refine Int.le_trans (hm3 _ ?_) ?_ <;> omega))
  · refine ExL.nil ?_
    refine Ex.cond_f rfl ?_
    refine Ex.skip ?_
    refine Ex.regSeq (ExL.pures 1 rfl ?_)
    refine ExL.op rfl (op_mut rfl rfl rfl (c_next code _ _ (by omega) (by assumption) _ at_ _ (by omega)) (perm_at (i := 0) rfl) (hcode) rfl rfl (fun x2 hx2 => ?_))
    refine ExL.pures 1 rfl ?_
    refine ExL.nil ?_
    refine Ex.seq ?_
    refine Ex.regSeq (ExL.pures 1 rfl ?_)
    refine ExL.gtr rfl rfl rfl rfl rfl rfl (fun h3 => ?_) (fun h3 => ?_)
    · refine ExL.nil ?_
      refine Ex.cond_t rfl ?_
      refine Ex.region (ExL.pures 1 rfl ?_)
      refine ExL.free (by first | exact fr_mul64 rfl rfl rfl (by omega) | exact fr_mul rfl rfl rfl) rfl rfl rfl ?_
      refine ExL.pures 1 rfl ?_
      refine ExL.op rfl (op_mut rfl rfl rfl (c_next code _ _ (by omega) (by assumption) _ (at_ + 1) _ (by omega)) (perm_at (i := 0) rfl) (hcode) rfl rfl (fun x4 hx4 => ?_))
      refine ExL.free (by first | exact fr_add64 rfl rfl rfl (by omega) | exact fr_add rfl rfl rfl) rfl rfl rfl ?_
      refine ExL.pures 1 rfl ?_
      refine ExL.nil ?_
      have hm1 := fun z => Int.emod_nonneg z (show n ≠ 0 by omega)
      have hm2 := fun z => Int.emod_lt_of_pos z (show 0 < n by omega)
      have hm3 := fun z hz => mod_le (z := z) (n := n) hz (by omega)
      refine Ex.regSeq (ExL.pures 2 rfl ?_)
      refine ExL.free (by first | exact fr_remP rfl rfl rfl (by omega) | exact fr_rem rfl rfl rfl (by omega)) rfl rfl rfl ?_
      refine ExL.pures 1 rfl ?_
      refine ExL.nil ?_
      refine Ex.ret ?_
      refine MutQ.mk (_, _, _) rfl (.tmp rfl .nil) (rfl) 1 [0] (rfl) rfl (by refine ⟨?_, ?_, ?_, ?_, ?_⟩ <;> first | exact hm1 _ | exact .inl (hm2 _) | (dsimp only; omega) | (refine Int.le_trans (hm3 _ ?_) ?_ <;> omega))
    · refine ExL.nil ?_
      refine Ex.cond_f rfl ?_
      refine Ex.skip ?_
      have hm1 := fun z => Int.emod_nonneg z (show n ≠ 0 by omega)
      have hm2 := fun z => Int.emod_lt_of_pos z (show 0 < n by omega)
      have hm3 := fun z hz => mod_le (z := z) (n := n) hz (by omega)
      refine Ex.regSeq (ExL.pures 2 rfl ?_)
      refine ExL.free (by first | exact fr_remP rfl rfl rfl (by omega) | exact fr_rem rfl rfl rfl (by omega)) rfl rfl rfl ?_
      refine ExL.pures 1 rfl ?_
      refine ExL.nil ?_
      refine Ex.ret ?_
      refine MutQ.mk (_, _, _) rfl (.tmp rfl .nil) (rfl) 1 [0] (rfl) rfl (by refine ⟨?_, ?_, ?_, ?_, ?_⟩ <;> first | exact hm1 _ | exact .inl (hm2 _) | (dsimp only; omega) | (refine Int.le_trans (hm3 _ ?_) ?_ <;> omega))
end Go.Proofs.YtiibhahhjkaodaaGreatDoor

/- What these functions of the program hand back, each proved by walking its operations. -/
set_option linter.unusedVariables false
set_option linter.unusedSimpArgs false
set_option maxRecDepth 4000
namespace Go.Proofs.YtiibhahhjkaodaaGreatDoor
open Go Go.Sx Go.RowKit Go.W Go.Proofs
attribute [local irreducible] Ex ExL ExD Op1 Free RetQ MutQ Reads CellO SegO LoadsAs
theorem e_21 : Enters Tryz.prog 21 := Enters.of Tryz.func21 rfl
theorem c_l00From (code : List Int) (Ac : Option Addr) (cc : Nat) : Ret Tryz.prog 21 [.slice Ac code.length cc] (fun w => True) (fun x : Nat => .pointer (some ⟨x, 0, none⟩)) (fun x => [.blk x [.slice Ac code.length cc, .int .i64 0, .int .u64 0] 96]) (fun x => True) := by
  refine Ret.of e_21 Tryz.func21 rfl Tryz.ntmps21 rfl rfl (fun w hpre => ?_)
  refine Ex.regSeq (ExL.pures 1 rfl ?_)
  refine ExL.nil ?_
  refine Ex.regSeq (ExL.pures 1 rfl ?_)
  refine ExL.free (fr_build rfl rfl rfl rfl) rfl rfl rfl ?_
  refine ExL.op rfl (op_box rfl rfl rfl rfl rfl (fun b1 => ?_))
  refine ExL.pures 1 rfl ?_
  refine ExL.nil ?_
  refine Ex.ret ?_
  refine RetQ.mk _ rfl (.tmp rfl .nil) (rfl) [0] (rfl) rfl (trivial)
end Go.Proofs.YtiibhahhjkaodaaGreatDoor

/- What these functions of the program hand back, each proved by walking its operations. -/
set_option linter.unusedVariables false
set_option linter.unusedSimpArgs false
set_option maxRecDepth 4000
namespace Go.Proofs.YtiibhahhjkaodaaGreatDoor
open Go Go.Sx Go.RowKit Go.W Go.Proofs
attribute [local irreducible] Ex ExL ExD Op1 Free RetQ MutQ Reads CellO SegO LoadsAs
theorem e_4 : Enters Tryz.prog 4 := Enters.of Tryz.func4 rfl
theorem c_f6big (s : List Int) (As : Option Addr) (cs : Nat) (hls : s.length ≤ maxLen) : Ret Tryz.prog 4 [.slice As s.length cs] (fun w => True) (fun x : Unit => .bool (decide (4096 < s.length))) (fun x => []) (fun x => True) := by
  refine Ret.of e_4 Tryz.func4 rfl Tryz.ntmps4 rfl rfl (fun w hpre => ?_)
  have hm0 : maxLen = 9223372036854775807 := rfl
  refine Ex.regSeq (ExL.pures 1 rfl ?_)
  refine ExL.nil ?_
  refine Ex.regSeq (ExL.pures 2 rfl ?_)
  refine ExL.gtr rfl rfl rfl rfl rfl rfl (fun h1 => ?_) (fun h1 => ?_)
  · refine ExL.pures 1 rfl ?_
    refine ExL.nil ?_
    refine Ex.ret ?_
    refine RetQ.mk () rfl (.tmp rfl .nil) (tB (by first | exact dec_t (by omega) | exact dec_f (by omega) | exact decide_eq_decide.2 (by omega))) [] (rfl) rfl (trivial)
  · refine ExL.pures 1 rfl ?_
    refine ExL.nil ?_
    refine Ex.ret ?_
    refine RetQ.mk () rfl (.tmp rfl .nil) (tB (by first | exact dec_t (by omega) | exact dec_f (by omega) | exact decide_eq_decide.2 (by omega))) [] (rfl) rfl (trivial)
theorem e_23 : Enters Tryz.prog 23 := Enters.of Tryz.func23 rfl
theorem c_among (code : List Int) (Ac : Option Addr) (cc : Nat) (hcl : code.length ≤ maxLen) (hcu : Nums 255 code) (b : Nat) (at_ sd : Int) (hat : 0 ≤ at_ ∧ at_ ≤ 1000000000) (l : List Int) (Al : Option Addr) (cl : Nat) (hll : 0 < l.length ∧ l.length ≤ 60000) : Mut Tryz.prog 23 [.pointer (some ⟨b, 0, none⟩), .slice Al l.length cl] [.blk b [.slice Ac code.length cc, .int .i64 at_, .int .u64 sd] 96, .row (.slice Al l.length cl) 2 1 l.length (l.flatMap (eI .i64))] (fun base w0 F => RdB base w0 Ac (code.flatMap (eI .u8))) (fun x : Nat × Int × Int => .int .i64 (l.getD x.1 0)) (fun x => [.blk b [.slice Ac code.length cc, .int .i64 x.2.1, .int .u64 x.2.2] 96, .row (.slice Al l.length cl) 2 1 l.length (l.flatMap (eI .i64))]) (fun x => x.1 < l.length ∧ at_ ≤ x.2.1 ∧ x.2.1 ≤ at_ + 2) := by
  refine Mut.of e_23 Tryz.func23 rfl Tryz.ntmps23 rfl rfl (fun base w0 F hfr => ?_)
  have hcode := hfr
  have hm0 : maxLen = 9223372036854775807 := rfl
  refine Ex.regSeq (ExL.pures 1 rfl ?_)
  refine ExL.nil ?_
  refine Ex.regSeq (ExL.pures 4 rfl ?_)
  refine ExL.op rfl (op_mut rfl rfl rfl (c_pick code _ _ (by omega) (by assumption) _ at_ _ (by omega) l.length (by omega)) (perm_at (i := 0) rfl) (hcode) rfl rfl (fun x1 hx1 => ?_))
  refine ExL.free (fr_indexAddrR (sz := 1) 1 rfl rfl rfl rfl rfl rfl (by omega)) rfl rfl rfl ?_
  refine ExL.free (fr_load rfl rfl rfl rfl (by first | exact cellN (Reads.row (i := 1) rfl) (eI_len .i64) 0 0 rfl (by omega) rfl | exact cellF (Reads.row (i := 1) rfl) (eI_len .i64) 0 0 rfl (by omega) rfl)) rfl rfl rfl ?_
  refine ExL.pures 1 rfl ?_
  refine ExL.nil ?_
  refine Ex.ret ?_
  refine MutQ.mk (x1.1.toNat, x1.2.1, x1.2.2) rfl (.tmp rfl .nil) (tI (by first | rfl | (simp; done))) 2 [0, 1] (rfl) rfl (by refine ⟨?_, ?_, ?_⟩ <;> dsimp only <;> omega)
theorem e_44 : Enters Tryz.prog 44 := Enters.of Tryz.func44 rfl
theorem c_one (code : List Int) (Ac : Option Addr) (cc : Nat) (hcl : code.length ≤ maxLen) (hcu : Nums 255 code) (b : Nat) (at_ sd : Int) (hat : 0 ≤ at_ ∧ at_ ≤ 1000000000) (n : Int) (hn : n ≤ 60000) : Mut Tryz.prog 44 [.pointer (some ⟨b, 0, none⟩), .int .i64 n] [.blk b [.slice Ac code.length cc, .int .i64 at_, .int .u64 sd] 96] (fun base w0 F => RdB base w0 Ac (code.flatMap (eI .u8))) (fun x : Bool × Int × Int => .bool x.1) (fun x => [.blk b [.slice Ac code.length cc, .int .i64 x.2.1, .int .u64 x.2.2] 96]) (fun x => at_ ≤ x.2.1 ∧ x.2.1 ≤ at_ + 2) := by
  refine Mut.of e_44 Tryz.func44 rfl Tryz.ntmps44 rfl rfl (fun base w0 F hfr => ?_)
  have hcode := hfr
  have hm0 : maxLen = 9223372036854775807 := rfl
  refine Ex.regSeq (ExL.pures 1 rfl ?_)
  refine ExL.nil ?_
  refine Ex.regSeq (ExL.pures 2 rfl ?_)
  refine ExL.op rfl (op_mut rfl rfl rfl (c_pick code _ _ (by omega) (by assumption) _ at_ _ (by omega) n (by omega)) (perm_at (i := 0) rfl) (hcode) rfl rfl (fun x1 hx1 => ?_))
  refine ExL.free (fr_eql rfl rfl rfl) rfl rfl rfl ?_
  refine ExL.pures 1 rfl ?_
  refine ExL.nil ?_
  refine Ex.ret ?_
  refine MutQ.mk (_, x1.2.1, x1.2.2) rfl (.tmp rfl .nil) (rfl) 1 [0] (rfl) rfl (by constructor <;> dsimp only <;> omega)
end Go.Proofs.YtiibhahhjkaodaaGreatDoor

/- What these functions of the program hand back, each proved by walking its operations. -/
set_option linter.unusedVariables false
set_option linter.unusedSimpArgs false
set_option maxRecDepth 4000
namespace Go.Proofs.YtiibhahhjkaodaaGreatDoor
open Go Go.Sx Go.RowKit Go.W Go.Proofs
attribute [local irreducible] Ex ExL ExD Op1 Free RetQ MutQ Reads CellO SegO LoadsAs
theorem e_42 : Enters Tryz.prog 42 := Enters.of Tryz.func42 rfl
theorem c_l01Drawn (code : List Int) (Ac : Option Addr) (cc : Nat) (hcl : code.length ≤ maxLen) (hcu : Nums 255 code) (b : Nat) (at_ sd : Int) (hat : 0 ≤ at_ ∧ at_ ≤ 1000000) : Mut Tryz.prog 42 [.pointer (some ⟨b, 0, none⟩)] [.blk b [.slice Ac code.length cc, .int .i64 at_, .int .u64 sd] 96] (fun base w0 F => RdB base w0 Ac (code.flatMap (eI .u8))) (fun x : (Int × Int) × (Option Addr × Nat) × List Int => .slice x.2.1.1 x.2.2.length x.2.1.2) (fun x => [.blk b [.slice Ac code.length cc, .int .i64 x.1.1, .int .u64 x.1.2] 96, .row (.slice x.2.1.1 x.2.2.length x.2.1.2) 5 1 x.2.2.length (x.2.2.flatMap (eI .u8))]) (fun x => DrStk x.2.2 ∧ at_ ≤ x.1.1 ∧ x.1.1 ≤ at_ + 10) := by
  refine Mut.of e_42 Tryz.func42 rfl Tryz.ntmps42 rfl rfl (fun base w0 F hfr => ?_)
  have hcode := hfr
  have hm0 : maxLen = 9223372036854775807 := rfl
  refine Ex.regSeq (ExL.pures 1 rfl ?_)
  refine ExL.nil ?_
  refine Ex.regSeq (ExL.pures 0 rfl ?_)
  refine ExL.op rfl (op_buildSlice (sz := 1) rfl rfl rfl rfl rfl rfl rfl rfl (by decide) rfl rfl rfl (fun r1 => ?_))
  refine ExL.pures 1 rfl ?_
  refine ExL.nil ?_
  refine Ex.seq ?_
  refine Ex.regSeq (ExL.pures 1 rfl ?_)
  refine ExL.op rfl (op_mut rfl rfl rfl (c_pick code _ _ (by omega) (by assumption) _ at_ _ (by omega) 4 (by omega)) (perm_at (i := 1) rfl) (hcode) rfl rfl (fun x2 hx2 => ?_))
  refine ExL.free (by first | exact fr_add64 rfl rfl rfl (by omega) | exact fr_add rfl rfl rfl) rfl rfl rfl ?_
  refine ExL.pures 1 rfl ?_
  refine ExL.nil ?_
  refine Ex.block ?_
  refine Ex.loopK (X := StS) (fun q => [(3, .slice q.A q.l.length q.c), (4, .int .i64 q.k)]) (fun q => [.blk b [.slice Ac code.length cc, .int .i64 q.at_, .int .u64 q.sd] 96, .row (.slice q.A q.l.length q.c) 5 1 q.l.length (q.l.flatMap (eI .u8))]) (fun q => StkP q.l ∧ (q.l.length : Int) + q.k ≤ 4 ∧ 1 ≤ (q.l.length : Int) + q.k ∧ 0 ≤ q.k ∧ at_ ≤ q.at_ ∧ q.at_ ≤ at_ + 2 + 2 * q.l.length) (fun q => q.k.toNat) (⟨[], (1 + x2.1), x2.2.1, x2.2.2, (some ⟨r1, 0, none⟩), 0⟩ : StS) [(0, _), (2, _)] (F) 2 [0, 1] ⟨rfl, rfl, trivial⟩ ⟨rfl, rfl, trivial⟩ (rfl) rfl ⟨StkP.nil, by dsimp only [List.length_nil]; omega, by dsimp only [List.length_nil]; omega, by dsimp only; omega, by dsimp only; omega, by dsimp only [List.length_nil]; omega⟩ (fun q hI => ?_)
  have hI : StkP q.l ∧ (q.l.length : Int) + q.k ≤ 4 ∧ 1 ≤ (q.l.length : Int) + q.k ∧ 0 ≤ q.k ∧ at_ ≤ q.at_ ∧ q.at_ ≤ at_ + 2 + 2 * q.l.length := hI
  obtain ⟨hP, hlk, hlk1, hk0, hat1, hat2⟩ := hI
  refine Ex.seq ?_
  refine Ex.regSeq (ExL.pures 1 rfl ?_)
  refine ExL.gtr rfl rfl rfl rfl rfl rfl (fun h3 => ?_) (fun h3 => ?_)
  · refine ExL.nil ?_
    refine Ex.cond_t rfl ?_
    refine Ex.skip ?_
    refine Ex.seq ?_
    refine Ex.block ?_
    refine Ex.region (ExL.pures 2 rfl ?_)
    refine ExL.op rfl (op_buildSlice (sz := 1) rfl rfl rfl rfl rfl rfl rfl rfl (by decide) rfl rfl rfl (fun r4 => ?_))
    refine ExL.op rfl (op_mut rfl rfl rfl (c_among code _ _ (by omega) (by assumption) _ q.at_ _ (by omega) [10, 10, 10, 60, 24, 2, 3, 12, 100] _ _ (by decide)) (perm_gt (i := 1) (j := 0) rfl rfl rfl) (hcode) rfl rfl (fun x5 hx5 => ?_))
    have hmx5 := getD_mem (s := [10, 10, 10, 60, 24, 2, 3, 12, 100]) 0 hx5.1
    simp only [List.mem_cons, List.not_mem_nil, or_false] at hmx5
    refine ExL.free (by first | exact fr_conv_u8 rfl rfl rfl rfl (by omega) | exact fr_conv rfl rfl rfl rfl) rfl rfl rfl ?_
    refine ExL.op rfl (op_buildSlice (sz := 1) rfl rfl rfl rfl rfl rfl rfl rfl (by decide) rfl rfl rfl (fun r6 => ?_))
    refine ExL.op rfl (op_append (sz := 1) (bytes := 1) (i := 3) rfl rfl rfl rfl (Reads.row (i := 0) rfl) rfl (fun e => nomatch e) rfl rfl rfl rfl (by constructor <;> first | omega | (unfold maxLen; omega)) rfl rfl (fun A7 cA7 => ?_))
    refine ExL.pures 1 rfl ?_
    refine ExL.nil ?_
    refine Ex.region (ExL.pures 1 rfl ?_)
    refine ExL.free (by first | exact fr_sub64 rfl rfl rfl (by omega) | exact fr_sub rfl rfl rfl) rfl rfl rfl ?_
    refine ExL.pures 1 rfl ?_
    refine ExL.nil ?_
    refine Hand.mk (⟨q.l ++ [([10, 10, 10, 60, 24, 2, 3, 12, 100].getD x5.1 0)], q.k - 1, x5.2.1, x5.2.2, A7, cA7⟩ : StS) 4 [1, 3] ⟨(by rw [List.length_append]; rfl), rfl, trivial⟩ ⟨rfl, rfl, trivial⟩ (by rw [List.length_append, List.flatMap_append]; rfl) rfl (⟨hP.next (by omega), by dsimp only; rw [List.length_append, List.length_singleton]; omega, by dsimp only; rw [List.length_append, List.length_singleton]; omega, by dsimp only; omega, by dsimp only; omega, by dsimp only; rw [List.length_append, List.length_singleton]; push_cast; omega⟩) (by dsimp only; omega)
  · refine ExL.nil ?_
    refine Ex.cond_f rfl ?_
    refine Ex.exit ?_
    refine Ex.regSeq (ExL.pures 2 rfl ?_)
    refine ExL.nil ?_
    refine Ex.ret ?_
    refine MutQ.mk ((q.at_, q.sd), (q.A, q.c), q.l) rfl (.tmp rfl .nil) (rfl) 2 [0, 1] (rfl) rfl (⟨⟨hP, by dsimp only; omega, by dsimp only; omega⟩, by dsimp only; omega, by dsimp only; omega⟩)
end Go.Proofs.YtiibhahhjkaodaaGreatDoor

/- What these functions of the program hand back, each proved by walking its operations. -/
set_option linter.unusedVariables false
set_option linter.unusedSimpArgs false
set_option maxRecDepth 4000
namespace Go.Proofs.YtiibhahhjkaodaaGreatDoor
open Go Go.Sx Go.RowKit Go.W Go.Proofs
attribute [local irreducible] Ex ExL ExD Op1 Free RetQ MutQ Reads CellO SegO LoadsAs
theorem e_20 : Enters Tryz.prog 20 := Enters.of Tryz.func20 rfl
theorem c_l07Drawn (code : List Int) (Ac : Option Addr) (cc : Nat) (hcl : code.length ≤ maxLen) (hcu : Nums 255 code) (b : Nat) (at_ sd : Int) (hat : 0 ≤ at_ ∧ at_ ≤ 500000) : Mut Tryz.prog 20 [.pointer (some ⟨b, 0, none⟩)] [.blk b [.slice Ac code.length cc, .int .i64 at_, .int .u64 sd] 96] (fun base w0 F => RdB base w0 Ac (code.flatMap (eI .u8))) (fun x : (Int × Int) × (Option Addr × Nat) × VDev => .agg (encV x.2.1.1 x.2.1.2 x.2.2).toArray) (fun x => [.blk b [.slice Ac code.length cc, .int .i64 x.1.1, .int .u64 x.1.2] 96, .row (.slice x.2.1.1 x.2.2.stack.length x.2.1.2) 5 1 x.2.2.stack.length (x.2.2.stack.flatMap (eI .u8))]) (fun x => DrDev x.2.2 ∧ at_ ≤ x.1.1 ∧ x.1.1 ≤ at_ + 30) := by
  refine Mut.of e_20 Tryz.func20 rfl Tryz.ntmps20 rfl rfl (fun base w0 F hfr => ?_)
  have hcode := hfr
  have hm0 : maxLen = 9223372036854775807 := rfl
  refine Ex.regSeq (ExL.pures 0 rfl ?_)
  refine ExL.op rfl (op_alloc rfl rfl rfl rfl rfl (fun b1 => ?_))
  refine ExL.nil ?_
  refine Ex.regSeq (ExL.pures 1 rfl ?_)
  refine ExL.op rfl (op_mut rfl rfl rfl (c_l01Drawn code _ _ (by omega) (by assumption) _ at_ _ (by omega)) (perm_at (i := 1) rfl) (hcode) rfl rfl (fun x2 hx2 => ?_))
  obtain ⟨hSx2, hqx2⟩ := hx2
  have hux2 := hSx2.nums
  have hvx2 := hSx2.valid
  have hzx2 := hSx2.size
  have hlx2 := hSx2.2
  refine ExL.pures 1 rfl ?_
  refine ExL.op rfl (op_mut rfl rfl rfl (c_pick code _ _ (by omega) (by assumption) _ x2.1.1 _ (by omega) 20 (by omega)) (perm_at (i := 0) rfl) (hcode) rfl rfl (fun x3 hx3 => ?_))
  refine ExL.free (fr_build rfl rfl rfl rfl) rfl rfl rfl ?_
  refine ExL.op rfl (op_alloc rfl rfl rfl rfl rfl (fun b4 => ?_))
  refine ExL.op rfl (op_storeC (i := 0) rfl rfl rfl rfl rfl rfl rfl rfl rfl rfl ?_)
  refine ExL.nil ?_
  refine Ex.regSeq (ExL.pures 1 rfl ?_)
  refine ExL.free (fr_load rfl rfl rfl rfl (CellO.blk (i := 0) rfl rfl)) rfl rfl rfl ?_
  refine ExL.op rfl (op_ret rfl rfl rfl (c_l01Size _ (by assumption) _ _ (by first | assumption | omega | (unfold maxLen; omega))) (Reads.get (Reads.row (i := 2) rfl)) rfl rfl (fun x5 hx5 => ?_))
  refine ExL.pures 1 rfl ?_
  refine ExL.nil ?_
  have hr1 := fun z => Int.emod_nonneg z (show (size x2.2.2) ≠ 0 by omega)
  have hr2 := fun z => Int.emod_lt_of_pos z (show 0 < (size x2.2.2) by omega)
  refine Ex.regSeq (ExL.pures 1 rfl ?_)
  refine ExL.op rfl (op_mut rfl rfl rfl (c_pick code _ _ (by omega) (by assumption) _ x3.2.1 _ (by omega) 1073741824 (by omega)) (perm_at (i := 1) rfl) (hcode) rfl rfl (fun x6 hx6 => ?_))
  refine ExL.pures 1 rfl ?_
  refine ExL.free (by first | exact fr_remP rfl rfl rfl (by omega) | exact fr_rem rfl rfl rfl (by omega)) rfl rfl rfl ?_
  refine ExL.pures 1 rfl ?_
  refine ExL.nil ?_
  have hra := hr1 x6.1
  have hrb := hr2 x6.1
  refine Ex.regSeq (ExL.pures 1 rfl ?_)
  refine ExL.free (fr_load rfl rfl rfl rfl (CellO.blk (i := 1) rfl rfl)) rfl rfl rfl ?_
  refine ExL.pures 1 rfl ?_
  refine ExL.op rfl (op_ret rfl rfl rfl (c_l01Of x2.2.2 (by first | assumption | simp_all) _ _ _ (by omega)) (Reads.get (Reads.row (i := 2) rfl)) rfl rfl (fun x7 hx7 => ?_))
  refine ExL.pures 1 rfl ?_
  refine ExL.op rfl (op_storeC (i := 1) rfl rfl rfl rfl rfl rfl rfl rfl rfl rfl ?_)
  refine ExL.nil ?_
  refine Ex.seq ?_
  generalize hD : (dig (digs x2.2.2 (x6.1 % (size x2.2.2)))) = D
  show Ex _ _ _ (_ :: .blk _ (encV x2.2.1.1 x2.2.1.2 ⟨x2.2.2, D, (-1), false, x3.1⟩) 28 :: _) _
  refine Ex.regSeq (ExL.pures 1 rfl ?_)
  refine ExL.op rfl (op_mut rfl rfl rfl (c_pick code _ _ (by omega) (by assumption) _ x6.2.1 _ (by omega) 4 (by omega)) (perm_at (i := 0) rfl) (hcode) rfl rfl (fun x8 hx8 => ?_))
  refine ExL.nil ?_
  refine Ex.block ?_
  refine Ex.regSeq (ExL.pures 0 rfl ?_)
  refine ExL.eql rfl rfl rfl rfl rfl rfl (fun h9 => ?_) (fun h9 => ?_)
  · refine ExL.pures 1 rfl ?_
    refine ExL.nil ?_
    refine Ex.cond_t rfl ?_
    refine Ex.region (ExL.pures 2 rfl ?_)
    refine ExL.op rfl (op_mut rfl rfl rfl (c_pick code _ _ (by omega) (by assumption) _ x8.2.1 _ (by omega) 12 (by omega)) (perm_at (i := 0) rfl) (hcode) rfl rfl (fun x10 hx10 => ?_))
    refine ExL.free (by first | exact fr_add64 rfl rfl rfl (by omega) | exact fr_add rfl rfl rfl) rfl rfl rfl ?_
    refine ExL.pures 1 rfl ?_
    refine ExL.free (by first | exact fr_remP rfl rfl rfl (by omega) | exact fr_rem rfl rfl rfl (by omega)) rfl rfl rfl ?_
    refine ExL.pures 1 rfl ?_
    refine ExL.op rfl (op_storeC (i := 1) rfl rfl rfl rfl rfl rfl rfl rfl rfl rfl ?_)
    refine ExL.nil ?_
    show Ex _ _ _ (_ :: .blk _ (encV x2.2.1.1 x2.2.1.2 ⟨x2.2.2, D, (((x6.1 % (size x2.2.2)) + x10.1) % (size x2.2.2)), false, x3.1⟩) 28 :: _) _
    have hrc := hr1 (((x6.1 % (size x2.2.2)) + x10.1))
    have hrd := hr2 (((x6.1 % (size x2.2.2)) + x10.1))
    refine Ex.regSeq (ExL.pures 0 rfl ?_)
    refine ExL.free (fr_loadN rfl rfl rfl rfl rfl (SegO.whole (i := 1) rfl)) rfl rfl rfl ?_
    refine ExL.op rfl (op_storeC (i := 3) rfl rfl rfl rfl rfl rfl rfl rfl rfl rfl ?_)
    refine ExL.nil ?_
    refine Ex.ret ?_
    refine MutQ.mk ((x10.2.1, x10.2.2), (x2.2.1.1, x2.2.1.2), (⟨x2.2.2, D, (((x6.1 % (size x2.2.2)) + x10.1) % (size x2.2.2)), false, x3.1⟩ : VDev)) rfl (.cell rfl (.many rfl rfl rfl (SegO.whole (i := 3) rfl)) .nil) (rfl) 4 [0, 2] (rfl) rfl (⟨by subst hD; exact drawn_dev (by assumption) (by omega) (by first | exact .inl rfl | (right; omega)) (by first | (intro h; cases h; done) | (intro _; first | rfl | omega)) (by omega), by dsimp only; omega, by dsimp only; omega⟩)
  · refine ExL.pures 1 rfl ?_
    refine ExL.nil ?_
    refine Ex.cond_f rfl ?_
    refine Ex.regSeq (ExL.pures 0 rfl ?_)
    refine ExL.eql rfl rfl rfl rfl rfl rfl (fun h11 => ?_) (fun h11 => ?_)
    · refine ExL.pures 1 rfl ?_
      refine ExL.nil ?_
      refine Ex.cond_t rfl ?_
      refine Ex.region (ExL.pures 1 rfl ?_)
      refine ExL.op rfl (op_mut rfl rfl rfl (c_pick code _ _ (by omega) (by assumption) _ x8.2.1 _ (by omega) 1073741824 (by omega)) (perm_at (i := 0) rfl) (hcode) rfl rfl (fun x12 hx12 => ?_))
      refine ExL.pures 1 rfl ?_
      refine ExL.free (by first | exact fr_remP rfl rfl rfl (by omega) | exact fr_rem rfl rfl rfl (by omega)) rfl rfl rfl ?_
      refine ExL.pures 1 rfl ?_
      refine ExL.op rfl (op_storeC (i := 1) rfl rfl rfl rfl rfl rfl rfl rfl rfl rfl ?_)
      refine ExL.nil ?_
      show Ex _ _ _ (_ :: .blk _ (encV x2.2.1.1 x2.2.1.2 ⟨x2.2.2, D, (x12.1 % (size x2.2.2)), false, x3.1⟩) 28 :: _) _
      have hrc := hr1 (x12.1)
      have hrd := hr2 (x12.1)
      refine Ex.regSeq (ExL.pures 0 rfl ?_)
      refine ExL.free (fr_loadN rfl rfl rfl rfl rfl (SegO.whole (i := 1) rfl)) rfl rfl rfl ?_
      refine ExL.op rfl (op_storeC (i := 3) rfl rfl rfl rfl rfl rfl rfl rfl rfl rfl ?_)
      refine ExL.nil ?_
      refine Ex.ret ?_
      refine MutQ.mk ((x12.2.1, x12.2.2), (x2.2.1.1, x2.2.1.2), (⟨x2.2.2, D, (x12.1 % (size x2.2.2)), false, x3.1⟩ : VDev)) rfl (.cell rfl (.many rfl rfl rfl (SegO.whole (i := 3) rfl)) .nil) (rfl) 4 [0, 2] (rfl) rfl (⟨by subst hD; exact drawn_dev (by assumption) (by omega) (by first | exact .inl rfl | (right; omega)) (by first | (intro h; cases h; done) | (intro _; first | rfl | omega)) (by omega), by dsimp only; omega, by dsimp only; omega⟩)
    · refine ExL.pures 1 rfl ?_
      refine ExL.nil ?_
      refine Ex.cond_f rfl ?_
      refine Ex.regSeq (ExL.pures 0 rfl ?_)
      refine ExL.eql rfl rfl rfl rfl rfl rfl (fun h13 => ?_) (fun h13 => ?_)
      · refine ExL.pures 1 rfl ?_
        refine ExL.nil ?_
        refine Ex.cond_t rfl ?_
        refine Ex.regSeq (ExL.pures 2 rfl ?_)
        refine ExL.op rfl (op_storeC (i := 1) rfl rfl rfl rfl rfl rfl rfl rfl rfl rfl ?_)
        refine ExL.nil ?_
        refine Ex.region (ExL.pures 1 rfl ?_)
        refine ExL.op rfl (op_mut rfl rfl rfl (c_one code _ _ (by omega) (by assumption) _ x8.2.1 _ (by omega) 2 (by omega)) (perm_at (i := 0) rfl) (hcode) rfl rfl (fun x14 hx14 => ?_))
        refine ExL.pures 1 rfl ?_
        refine ExL.op rfl (op_storeC (i := 1) rfl rfl rfl rfl rfl rfl rfl rfl rfl rfl ?_)
        refine ExL.nil ?_
        show Ex _ _ _ (_ :: .blk _ (encV x2.2.1.1 x2.2.1.2 ⟨x2.2.2, D, (x6.1 % (size x2.2.2)), x14.1, x3.1⟩) 28 :: _) _
        have hrc := hr1 (x6.1)
        have hrd := hr2 (x6.1)
        refine Ex.regSeq (ExL.pures 0 rfl ?_)
        refine ExL.free (fr_loadN rfl rfl rfl rfl rfl (SegO.whole (i := 1) rfl)) rfl rfl rfl ?_
        refine ExL.op rfl (op_storeC (i := 3) rfl rfl rfl rfl rfl rfl rfl rfl rfl rfl ?_)
        refine ExL.nil ?_
        refine Ex.ret ?_
        refine MutQ.mk ((x14.2.1, x14.2.2), (x2.2.1.1, x2.2.1.2), (⟨x2.2.2, D, (x6.1 % (size x2.2.2)), x14.1, x3.1⟩ : VDev)) rfl (.cell rfl (.many rfl rfl rfl (SegO.whole (i := 3) rfl)) .nil) (rfl) 4 [0, 2] (rfl) rfl (⟨by subst hD; exact drawn_dev (by assumption) (by omega) (by first | exact .inl rfl | (right; omega)) (by first | (intro h; cases h; done) | (intro _; first | rfl | omega)) (by omega), by dsimp only; omega, by dsimp only; omega⟩)
      · refine ExL.pures 1 rfl ?_
        refine ExL.nil ?_
        refine Ex.cond_f rfl ?_
        refine Ex.skip ?_
        show Ex _ _ _ (_ :: .blk _ (encV x2.2.1.1 x2.2.1.2 ⟨x2.2.2, D, (-1), false, x3.1⟩) 28 :: _) _
        refine Ex.regSeq (ExL.pures 0 rfl ?_)
        refine ExL.free (fr_loadN rfl rfl rfl rfl rfl (SegO.whole (i := 1) rfl)) rfl rfl rfl ?_
        refine ExL.op rfl (op_storeC (i := 3) rfl rfl rfl rfl rfl rfl rfl rfl rfl rfl ?_)
        refine ExL.nil ?_
        refine Ex.ret ?_
        refine MutQ.mk ((x8.2.1, x8.2.2), (x2.2.1.1, x2.2.1.2), (⟨x2.2.2, D, (-1), false, x3.1⟩ : VDev)) rfl (.cell rfl (.many rfl rfl rfl (SegO.whole (i := 3) rfl)) .nil) (rfl) 4 [0, 2] (rfl) rfl (⟨by subst hD; exact drawn_dev (by assumption) (by omega) (by first | exact .inl rfl | (right; omega)) (by first | (intro h; cases h; done) | (intro _; first | rfl | omega)) (by omega), by dsimp only; omega, by dsimp only; omega⟩)
end Go.Proofs.YtiibhahhjkaodaaGreatDoor

/- What these functions of the program hand back, each proved by walking its operations. -/
set_option linter.unusedVariables false
set_option linter.unusedSimpArgs false
set_option maxRecDepth 4000
namespace Go.Proofs.YtiibhahhjkaodaaGreatDoor
open Go Go.Sx Go.RowKit Go.W Go.Proofs
attribute [local irreducible] Ex ExL ExD Op1 Free RetQ MutQ Reads CellO SegO LoadsAs
theorem e_5 : Enters Tryz.prog 5 := Enters.of Tryz.func5 rfl
theorem c_P6Device (code : List Int) (Ac : Option Addr) (cc : Nat) (hcl : code.length ≤ maxLen) (hcu : Nums 255 code) : Ret Tryz.prog 5 [.slice Ac code.length cc] (fun w => Rd w Ac (code.flatMap (eI .u8))) (fun x : (Option Addr × Nat) × VDev => .agg (encV x.1.1 x.1.2 x.2).toArray) (fun x => [.row (.slice x.1.1 x.2.stack.length x.1.2) 5 1 x.2.stack.length (x.2.stack.flatMap (eI .u8))]) (fun x => DrDev x.2) := by
  refine Ret.of e_5 Tryz.func5 rfl Tryz.ntmps5 rfl rfl (fun w hpre => ?_)
  have hcode := hpre.base
  have hm0 : maxLen = 9223372036854775807 := rfl
  refine Ex.regSeq (ExL.pures 0 rfl ?_)
  refine ExL.op rfl (op_alloc rfl rfl rfl rfl rfl (fun b1 => ?_))
  refine ExL.nil ?_
  refine Ex.regSeq (ExL.pures 1 rfl ?_)
  refine ExL.op rfl (op_ret rfl rfl rfl (c_l00From code _ _) (fun _ _ => trivial) rfl rfl (fun x2 hx2 => ?_))
  refine ExL.op rfl (op_mut rfl rfl rfl (c_l07Drawn code _ _ (by omega) (by assumption) _ 0 _ (by omega)) (perm_at (i := 0) rfl) (hcode) rfl rfl (fun x3 hx3 => ?_))
  refine ExL.op rfl (op_storeC (i := 2) rfl rfl rfl rfl rfl rfl rfl rfl rfl rfl ?_)
  refine ExL.nil ?_
  refine Ex.ret ?_
  refine RetQ.mk ((x3.2.1.1, x3.2.1.2), x3.2.2) rfl (.cell rfl (.many rfl rfl rfl (SegO.whole (i := 2) rfl)) .nil) (rfl) [1] (rfl) rfl ((by assumption : DrDev _ ∧ _).1)
theorem e_19 : Enters Tryz.prog 19 := Enters.of Tryz.func19 rfl
theorem c_P6Pick (code : List Int) (Ac : Option Addr) (cc : Nat) (hcl : code.length ≤ maxLen) (hcu : Nums 255 code) (n : Int) (hn : n ≤ 9223372036854775807) : Ret Tryz.prog 19 [.slice Ac code.length cc, .int .i64 n] (fun w => Rd w Ac (code.flatMap (eI .u8))) (fun x : Int => .int .i64 x) (fun x => []) (fun x => 0 ≤ x ∧ (x < n ∨ x = 0) ∧ x ≤ 65535) := by
  refine Ret.of e_19 Tryz.func19 rfl Tryz.ntmps19 rfl rfl (fun w hpre => ?_)
  have hcode := hpre.base
  have hm0 : maxLen = 9223372036854775807 := rfl
  refine Ex.regSeq (ExL.pures 1 rfl ?_)
  refine ExL.nil ?_
  refine Ex.regSeq (ExL.pures 1 rfl ?_)
  refine ExL.op rfl (op_ret rfl rfl rfl (c_l00From code _ _) (fun _ _ => trivial) rfl rfl (fun x1 hx1 => ?_))
  refine ExL.pures 1 rfl ?_
  refine ExL.op rfl (op_mut rfl rfl rfl (c_pick code _ _ (by omega) (by assumption) _ 0 _ (by omega) n (by omega)) (perm_at (i := 0) rfl) (hcode) rfl rfl (fun x2 hx2 => ?_))
  refine ExL.pures 1 rfl ?_
  refine ExL.nil ?_
  refine Ex.ret ?_
  refine RetQ.mk _ rfl (.tmp rfl .nil) (rfl) [] (rfl) rfl (by refine ⟨?_, ?_, ?_⟩ <;> omega)
theorem e_6 : Enters Tryz.prog 6 := Enters.of Tryz.func6 rfl
theorem c_P6Acts (code : List Int) (Ac : Option Addr) (cc : Nat) (hcl : code.length ≤ maxLen) (hcu : Nums 255 code) (d : VDev) (hD : DrDev d) (Ad : Option Addr) (cd : Nat) : Ret Tryz.prog 6 [.slice Ac code.length cc, .agg (encV Ad cd d).toArray] (fun w => Rd w Ac (code.flatMap (eI .u8)) ∧ Rd w Ad (d.stack.flatMap (eI .u8))) (fun x : (Option Addr × Nat) × List VAct => .slice x.1.1 x.2.length x.1.2) (fun x => [.row (.slice x.1.1 x.2.length x.1.2) 63 2 x.2.length (x.2.flatMap encA)]) (fun x => DrActs d.stack x.2) := by
  refine Ret.of e_6 Tryz.func6 rfl Tryz.ntmps6 rfl rfl (fun w hpre => ?_)
  have hcode := hpre.1.base
  have hd := hpre.2.base
  have hN := hD.len
  have hS := hN.2.2.1
  have hu := hN.2.2.2.1
  have hm0 : maxLen = 9223372036854775807 := rfl
  refine Ex.regSeq (ExL.pures 0 rfl ?_)
  refine ExL.op rfl (op_box rfl rfl rfl rfl rfl (fun b1 => ?_))
  refine ExL.pures 1 rfl ?_
  refine ExL.nil ?_
  refine Ex.regSeq (ExL.pures 1 rfl ?_)
  refine ExL.op rfl (op_ret rfl rfl rfl (c_l00From code _ _) (fun _ _ => trivial) rfl rfl (fun x2 hx2 => ?_))
  refine ExL.pures 1 rfl ?_
  refine ExL.nil ?_
  refine Ex.regSeq (ExL.pures 0 rfl ?_)
  refine ExL.op rfl (op_buildSlice (sz := 2) rfl rfl rfl rfl rfl rfl rfl rfl (by decide) rfl rfl rfl (fun r3 => ?_))
  refine ExL.pures 1 rfl ?_
  refine ExL.nil ?_
  refine Ex.seq ?_
  refine Ex.regSeq (ExL.pures 1 rfl ?_)
  refine ExL.op rfl (op_mut rfl rfl rfl (c_pick code _ _ (by omega) (by assumption) _ 0 _ (by omega) 10 (by omega)) (perm_at (i := 1) rfl) (hcode) rfl rfl (fun x4 hx4 => ?_))
  refine ExL.pures 1 rfl ?_
  refine ExL.nil ?_
  refine Ex.block ?_
  refine Ex.loopK (X := AcS) (fun q => [(6, .slice q.A q.l.length q.c), (7, .int .i64 q.k)]) (fun q => [.blk x2 [.slice Ac code.length cc, .int .i64 q.at_, .int .u64 q.sd] 96, .row (.slice q.A q.l.length q.c) 63 2 q.l.length (q.l.flatMap encA)]) (fun q => ActP d.stack q.l ∧ (q.l.length : Int) + q.k ≤ 9 ∧ 0 ≤ q.k ∧ 0 ≤ q.at_ ∧ q.at_ ≤ 2 + 10 * q.l.length) (fun q => q.k.toNat) (⟨[], x4.1, x4.2.1, x4.2.2, (some ⟨r3, 0, none⟩), 0⟩ : AcS) [(3, _), (4, _), (5, _)] [_] 3 [0, 1, 2] ⟨rfl, rfl, trivial⟩ ⟨rfl, rfl, rfl, trivial⟩ (rfl) rfl ⟨ActP.nil, by dsimp only [List.length_nil]; omega, by dsimp only; omega, by dsimp only; omega, by dsimp only [List.length_nil]; omega⟩ (fun q hI => ?_)
  have hI : ActP d.stack q.l ∧ (q.l.length : Int) + q.k ≤ 9 ∧ 0 ≤ q.k ∧ 0 ≤ q.at_ ∧ q.at_ ≤ 2 + 10 * q.l.length := hI
  obtain ⟨hP, hlk, hk0, hat1, hat2⟩ := hI
  refine Ex.seq ?_
  refine Ex.regSeq (ExL.pures 1 rfl ?_)
  refine ExL.gtr rfl rfl rfl rfl rfl rfl (fun h5 => ?_) (fun h5 => ?_)
  · refine ExL.nil ?_
    refine Ex.cond_t rfl ?_
    refine Ex.skip ?_
    refine Ex.seq ?_
    refine Ex.block ?_
    refine Ex.regSeq (ExL.pures 1 rfl ?_)
    refine ExL.op rfl (op_buildSlice (sz := 1) rfl rfl rfl rfl rfl rfl rfl rfl (by decide) rfl rfl rfl (fun r6 => ?_))
    refine ExL.op rfl (op_mut rfl rfl rfl (c_among code _ _ (by omega) (by assumption) _ q.at_ _ (by omega) [1, 1, 1, 2, 3, 4, 5, 5] _ _ (by decide)) (perm_gt (i := 1) (j := 0) rfl rfl rfl) (hcode) rfl rfl (fun x7 hx7 => ?_))
    have hmx7 := getD_mem (s := [1, 1, 1, 2, 3, 4, 5, 5]) 0 hx7.1
    simp only [List.mem_cons, List.not_mem_nil, or_false] at hmx7
    refine ExL.free (by first | exact fr_conv_i8 rfl rfl rfl rfl (by omega) | exact fr_conv rfl rfl rfl rfl) rfl rfl rfl ?_
    refine ExL.free (fr_build rfl rfl rfl rfl) rfl rfl rfl ?_
    refine ExL.op rfl (op_alloc rfl rfl rfl rfl rfl (fun b8 => ?_))
    refine ExL.op rfl (op_storeC (i := 0) rfl rfl rfl rfl rfl rfl rfl rfl rfl rfl ?_)
    refine ExL.nil ?_
    refine Ex.seq ?_
    refine Ex.regSeq (ExL.pures 1 rfl ?_)
    refine ExL.free (fr_load rfl rfl rfl rfl (CellO.blk (i := 0) rfl rfl)) rfl rfl rfl ?_
    refine ExL.nil ?_
    refine Ex.block ?_
    refine Ex.seq ?_
    refine Ex.regSeq (ExL.pures 0 rfl ?_)
    refine ExL.eql rfl rfl rfl rfl rfl rfl (fun h9 => ?_) (fun h9 => ?_)
    · refine ExL.pures 1 rfl ?_
      refine ExL.nil ?_
      refine Ex.cond_t rfl ?_
      refine Ex.skip ?_
      refine Ex.cond_t rfl ?_
      refine Ex.region (ExL.pures 1 rfl ?_)
      refine ExL.op rfl (op_mut rfl rfl rfl (c_pick code _ _ (by omega) (by assumption) _ x7.2.1 _ (by omega) 20 (by omega)) (perm_at (i := 1) rfl) (hcode) rfl rfl (fun x10 hx10 => ?_))
      refine ExL.pures 1 rfl ?_
      refine ExL.op rfl (op_storeC (i := 1) rfl rfl rfl rfl rfl rfl rfl rfl rfl rfl ?_)
      refine ExL.nil ?_
      refine Ex.region (ExL.pures 1 rfl ?_)
      refine ExL.free (fr_loadN rfl rfl rfl rfl rfl (SegO.whole (i := 1) rfl)) rfl rfl rfl ?_
      refine ExL.op rfl (op_buildSlice (sz := 2) rfl rfl rfl rfl rfl rfl rfl rfl (by decide) rfl rfl rfl (fun r11 => ?_))
      refine ExL.op rfl (op_append (sz := 2) (bytes := 16) (i := 4) rfl rfl rfl rfl (Reads.row (i := 0) rfl) rfl (fun e => nomatch e) rfl rfl rfl rfl (by constructor <;> first | omega | (unfold maxLen; omega)) rfl rfl (fun A12 cA12 => ?_))
      refine ExL.pures 1 rfl ?_
      refine ExL.nil ?_
      refine Ex.region (ExL.pures 1 rfl ?_)
      refine ExL.free (by first | exact fr_sub64 rfl rfl rfl (by omega) | exact fr_sub rfl rfl rfl) rfl rfl rfl ?_
      refine ExL.pures 1 rfl ?_
      refine ExL.nil ?_
      refine Hand.mk (⟨q.l ++ [⟨([1, 1, 1, 2, 3, 4, 5, 5].getD x7.1 0), x10.1⟩], q.k - 1, x10.2.1, x10.2.2, A12, cA12⟩ : AcS) 6 [1, 4, 5] ⟨(by rw [List.length_append]; rfl), rfl, trivial⟩ ⟨rfl, rfl, rfl, trivial⟩ (by rw [List.length_append, List.flatMap_append]; rfl) rfl (⟨hP.next (by unfold OkJ; dsimp only; omega), by dsimp only; rw [List.length_append, List.length_singleton]; omega, by dsimp only; omega, by dsimp only; omega, by dsimp only; rw [List.length_append, List.length_singleton]; push_cast; omega⟩) (by dsimp only; omega)
    · refine ExL.pures 1 rfl ?_
      refine ExL.nil ?_
      refine Ex.cond_f rfl ?_
      refine Ex.region (ExL.pures 0 rfl ?_)
      refine ExL.eql rfl rfl rfl rfl rfl rfl (fun h14 => ?_) (fun h14 => ?_)
      · refine ExL.pures 1 rfl ?_
        refine ExL.nil ?_
        refine Ex.cond_t rfl ?_
        refine Ex.region (ExL.pures 1 rfl ?_)
        refine ExL.op rfl (op_mut rfl rfl rfl (c_pick code _ _ (by omega) (by assumption) _ x7.2.1 _ (by omega) 20 (by omega)) (perm_at (i := 1) rfl) (hcode) rfl rfl (fun x15 hx15 => ?_))
        refine ExL.pures 1 rfl ?_
        refine ExL.op rfl (op_storeC (i := 1) rfl rfl rfl rfl rfl rfl rfl rfl rfl rfl ?_)
        refine ExL.nil ?_
        refine Ex.region (ExL.pures 1 rfl ?_)
        refine ExL.free (fr_loadN rfl rfl rfl rfl rfl (SegO.whole (i := 1) rfl)) rfl rfl rfl ?_
        refine ExL.op rfl (op_buildSlice (sz := 2) rfl rfl rfl rfl rfl rfl rfl rfl (by decide) rfl rfl rfl (fun r16 => ?_))
        refine ExL.op rfl (op_append (sz := 2) (bytes := 16) (i := 4) rfl rfl rfl rfl (Reads.row (i := 0) rfl) rfl (fun e => nomatch e) rfl rfl rfl rfl (by constructor <;> first | omega | (unfold maxLen; omega)) rfl rfl (fun A17 cA17 => ?_))
        refine ExL.pures 1 rfl ?_
        refine ExL.nil ?_
        refine Ex.region (ExL.pures 1 rfl ?_)
        refine ExL.free (by first | exact fr_sub64 rfl rfl rfl (by omega) | exact fr_sub rfl rfl rfl) rfl rfl rfl ?_
        refine ExL.pures 1 rfl ?_
        refine ExL.nil ?_
        refine Hand.mk (⟨q.l ++ [⟨([1, 1, 1, 2, 3, 4, 5, 5].getD x7.1 0), x15.1⟩], q.k - 1, x15.2.1, x15.2.2, A17, cA17⟩ : AcS) 6 [1, 4, 5] ⟨(by rw [List.length_append]; rfl), rfl, trivial⟩ ⟨rfl, rfl, rfl, trivial⟩ (by rw [List.length_append, List.flatMap_append]; rfl) rfl (⟨hP.next (by unfold OkJ; dsimp only; omega), by dsimp only; rw [List.length_append, List.length_singleton]; omega, by dsimp only; omega, by dsimp only; omega, by dsimp only; rw [List.length_append, List.length_singleton]; push_cast; omega⟩) (by dsimp only; omega)
      · refine ExL.pures 1 rfl ?_
        refine ExL.nil ?_
        refine Ex.cond_f rfl ?_
        refine Ex.regSeq (ExL.pures 0 rfl ?_)
        refine ExL.eql rfl rfl rfl rfl rfl rfl (fun h19 => ?_) (fun h19 => ?_)
        · refine ExL.pures 1 rfl ?_
          refine ExL.nil ?_
          refine Ex.cond_t rfl ?_
          refine Ex.drawI [0, 2, 3, 4] rfl rfl ?_
          refine ExD.take (i := 0) rfl (by kernel_rfl) (pureVal_ok rfl) ((List.Sublist.cons_cons _ (List.Sublist.cons _ (List.Sublist.refl _)))) rfl rfl rfl ?_
          refine ExD.take (i := 3) rfl (by kernel_rfl) (pureVal_ok rfl) ((List.Sublist.cons_cons _ (List.Sublist.cons _ (List.Sublist.refl _)))) rfl rfl rfl ?_
          refine ExD.take (i := 4) rfl (by kernel_rfl) (fr_load rfl rfl rfl rfl (CellO.blk (i := 3) rfl rfl)) ((List.Sublist.cons_cons _ (List.Sublist.cons _ (List.Sublist.refl _)))) rfl rfl rfl ?_
          refine ExD.op (i := 1) rfl (by kernel_rfl) rfl (op_mut rfl rfl rfl (c_pick code _ _ (by omega) (by assumption) _ x7.2.1 _ (by omega) 30 (by omega)) (perm_at (i := 1) rfl) (hcode) rfl rfl (fun x20 hx20 => ⟨(List.Sublist.cons _ (List.Sublist.refl _)), ?_⟩))
          refine ExD.take (i := 2) rfl (by kernel_rfl) (by first | exact fr_sub64 rfl rfl rfl (by omega) | exact fr_sub rfl rfl rfl) ((List.Sublist.cons _ (List.Sublist.refl _))) rfl rfl rfl ?_
          refine ExD.op (i := 5) rfl (by kernel_rfl) rfl (op_ret rfl rfl rfl (c_l01Size _ (by assumption) _ _ (by first | assumption | omega | (unfold maxLen; omega))) (Reads.get (Reads.old hd)) rfl rfl (fun x21 hx21 => ⟨(List.Sublist.cons _ (List.Sublist.refl _)), ?_⟩))
          refine ExD.take (i := 6) rfl (by kernel_rfl) (by first | exact fr_sub64 rfl rfl rfl (by omega) | exact fr_sub rfl rfl rfl) ((List.Sublist.cons _ (List.Sublist.refl _))) rfl rfl rfl ?_
          refine ExD.op (i := 7) rfl (by kernel_rfl) rfl (op_ret rfl rfl rfl (c_l00Min _ _) (fun _ _ => trivial) rfl rfl (fun x22 hx22 => ⟨(List.Sublist.cons _ (List.Sublist.refl _)), ?_⟩))
          refine ExD.take (i := 8) rfl (by kernel_rfl) (pureVal_ok rfl) ((List.Sublist.cons _ (List.Sublist.refl _))) rfl rfl rfl ?_
          refine ExD.last (i := 9) rfl (by kernel_rfl) (by kernel_rfl) rfl (op_storeC (i := 1) rfl rfl rfl rfl rfl rfl rfl rfl rfl rfl ?_)
          refine ExD.done (by kernel_rfl) ?_
          refine Ex.region (ExL.pures 1 rfl ?_)
          refine ExL.free (fr_loadN rfl rfl rfl rfl rfl (SegO.whole (i := 1) rfl)) rfl rfl rfl ?_
          refine ExL.op rfl (op_buildSlice (sz := 2) rfl rfl rfl rfl rfl rfl rfl rfl (by decide) rfl rfl rfl (fun r23 => ?_))
          refine ExL.op rfl (op_append (sz := 2) (bytes := 16) (i := 4) rfl rfl rfl rfl (Reads.row (i := 0) rfl) rfl (fun e => nomatch e) rfl rfl rfl rfl (by constructor <;> first | omega | (unfold maxLen; omega)) rfl rfl (fun A24 cA24 => ?_))
          refine ExL.pures 1 rfl ?_
          refine ExL.nil ?_
          refine Ex.region (ExL.pures 1 rfl ?_)
          refine ExL.free (by first | exact fr_sub64 rfl rfl rfl (by omega) | exact fr_sub rfl rfl rfl) rfl rfl rfl ?_
          refine ExL.pures 1 rfl ?_
          refine ExL.nil ?_
          refine Hand.mk (⟨q.l ++ [⟨([1, 1, 1, 2, 3, 4, 5, 5].getD x7.1 0), (min (x20.1 - 1) ((size d.stack) - 1))⟩], q.k - 1, x20.2.1, x20.2.2, A24, cA24⟩ : AcS) 6 [1, 4, 5] ⟨(by rw [List.length_append]; rfl), rfl, trivial⟩ ⟨rfl, rfl, rfl, trivial⟩ (by rw [List.length_append, List.flatMap_append]; rfl) rfl (⟨hP.next (by unfold OkJ; dsimp only; omega), by dsimp only; rw [List.length_append, List.length_singleton]; omega, by dsimp only; omega, by dsimp only; omega, by dsimp only; rw [List.length_append, List.length_singleton]; push_cast; omega⟩) (by dsimp only; omega)
        · refine ExL.pures 1 rfl ?_
          refine ExL.nil ?_
          refine Ex.cond_f rfl ?_
          refine Ex.skip ?_
          refine Ex.region (ExL.pures 1 rfl ?_)
          refine ExL.free (fr_loadN rfl rfl rfl rfl rfl (SegO.whole (i := 0) rfl)) rfl rfl rfl ?_
          refine ExL.op rfl (op_buildSlice (sz := 2) rfl rfl rfl rfl rfl rfl rfl rfl (by decide) rfl rfl rfl (fun r26 => ?_))
          refine ExL.op rfl (op_append (sz := 2) (bytes := 16) (i := 4) rfl rfl rfl rfl (Reads.row (i := 0) rfl) rfl (fun e => nomatch e) rfl rfl rfl rfl (by constructor <;> first | omega | (unfold maxLen; omega)) rfl rfl (fun A27 cA27 => ?_))
          refine ExL.pures 1 rfl ?_
          refine ExL.nil ?_
          refine Ex.region (ExL.pures 1 rfl ?_)
          refine ExL.free (by first | exact fr_sub64 rfl rfl rfl (by omega) | exact fr_sub rfl rfl rfl) rfl rfl rfl ?_
          refine ExL.pures 1 rfl ?_
          refine ExL.nil ?_
          refine Hand.mk (⟨q.l ++ [⟨([1, 1, 1, 2, 3, 4, 5, 5].getD x7.1 0), 0⟩], q.k - 1, x7.2.1, x7.2.2, A27, cA27⟩ : AcS) 6 [2, 4, 5] ⟨(by rw [List.length_append]; rfl), rfl, trivial⟩ ⟨rfl, rfl, rfl, trivial⟩ (by rw [List.length_append, List.flatMap_append]; rfl) rfl (⟨hP.next (by unfold OkJ; dsimp only; omega), by dsimp only; rw [List.length_append, List.length_singleton]; omega, by dsimp only; omega, by dsimp only; omega, by dsimp only; rw [List.length_append, List.length_singleton]; push_cast; omega⟩) (by dsimp only; omega)
  · refine ExL.nil ?_
    refine Ex.cond_f rfl ?_
    refine Ex.exit ?_
    refine Ex.regSeq (ExL.pures 2 rfl ?_)
    refine ExL.nil ?_
    refine Ex.ret ?_
    refine RetQ.mk ((q.A, q.c), q.l) rfl (.tmp rfl .nil) (rfl) [1] (rfl) rfl (⟨by dsimp only; omega, hP⟩)
end Go.Proofs.YtiibhahhjkaodaaGreatDoor

/-
  DERIVED: THE SHELF's CONTRACTS AT THIS DUMP, IN PLAIN WORDS (tools/lay-plain.mjs out of 'TryzShelf.lean', which tools/lay-shelf.mjs wrote): THE SAME DECLARATIONS UNDER THE SAME NAMES: 'import', 'namespace', 'open', 'def', 'theorem' AND NOTHING ELSE: no command of the shelf's: FOR A HAND-IN. Each laying: the table of numbers ('.._ren') and one theorem, a field a fact of the dump's own or the kernel's comparison; each contract: ONE APPLICATION.
-/
namespace Go.Proofs
open Go.Shelf
def Tryz.lays156_ren : Go.Shelf.Ren := ⟨fun | 156 => 66 | 165 => 89 | 166 => 90 | 169 => 91 | 240 => 116 | 241 => 117 | 276 => 139 | 277 => 140 | n => n, fun | 31 => 75 | 9 => 9 | 3 => 3 | 4 => 4 | 0 => 0 | 20 => 20 | 72 => 142 | 76 => 144 | 70 => 140 | 37 => 22 | 75 => 113 | 127 => 171 | 164 => 188 | 5 => 5 | 80 => 146 | n => n, fun | n => n⟩
theorem Tryz.lays156 : Go.Proofs.Lays.n156 Tryz.prog Tryz.lays156_ren := {
  mixed := by kernel_rfl
  f156 := Tryz.func66.trans (congrArg some (by kernel_rfl))
  f165 := Tryz.func89.trans (congrArg some (by kernel_rfl))
  f166 := Tryz.func90.trans (congrArg some (by kernel_rfl))
  f169 := Tryz.func91.trans (congrArg some (by kernel_rfl))
  f240 := Tryz.func116.trans (congrArg some (by kernel_rfl))
  f241 := Tryz.func117.trans (congrArg some (by kernel_rfl))
  f276 := Tryz.func139.trans (congrArg some (by kernel_rfl))
  f277 := Tryz.func140.trans (congrArg some (by kernel_rfl))
  t0 := Tryz.underlying0
  a0 := Tryz.isAgg0
  z0 := Tryz.sizeOf0
  v0 := Tryz.zeroValue0
  t3 := Tryz.underlying3
  a3 := Tryz.isAgg3
  z3 := Tryz.sizeOf3
  v3 := Tryz.zeroValue3
  t4 := Tryz.underlying4
  a4 := Tryz.isAgg4
  z4 := Tryz.sizeOf4
  v4 := Tryz.zeroValue4
  t9 := Tryz.underlying9
  a9 := Tryz.isAgg9
  z9 := Tryz.sizeOf9
  v9 := Tryz.zeroValue9
  t20 := Tryz.underlying20
  a20 := Tryz.isAgg20
  z20 := Tryz.sizeOf20
  v20 := Tryz.zeroValue20
  t31 := Tryz.underlying75
  a31 := Tryz.isAgg75
  z31 := Tryz.sizeOf75
  v31 := Tryz.zeroValue75
  t37 := Tryz.underlying22
  a37 := Tryz.isAgg22
  z37 := Tryz.sizeOf22
  v37 := Tryz.zeroValue22
  t70 := Tryz.underlying140
  a70 := Tryz.isAgg140
  z70 := Tryz.sizeOf140
  v70 := Tryz.zeroValue140
  t72 := Tryz.underlying142
  a72 := Tryz.isAgg142
  z72 := Tryz.sizeOf142
  v72 := Tryz.zeroValue142
  t75 := Tryz.underlying113
  a75 := Tryz.isAgg113
  z75 := Tryz.sizeOf113
  v75 := Tryz.zeroValue113
  t76 := Tryz.underlying144
  a76 := Tryz.isAgg144
  z76 := Tryz.sizeOf144
  v76 := Tryz.zeroValue144
  t127 := Tryz.underlying171
  a127 := Tryz.isAgg171
  z127 := Tryz.sizeOf171
  v127 := Tryz.zeroValue171
  t164 := Tryz.underlying188
  a164 := Tryz.isAgg188
  z164 := Tryz.sizeOf188
  v164 := Tryz.zeroValue188 }
theorem Tryz.Builder_Extra_156 : Builder.Extra Tryz.prog Tryz.lays156_ren := {
  sizeBuilder := by kernel_rfl
  liesBuilder := by kernel_rfl
  t5 := Tryz.underlying5
  a5 := Tryz.isAgg5
  z5 := Tryz.sizeOf5
  v5 := Tryz.zeroValue5
  infoByte := by kernel_rfl
  cellsByte := by kernel_rfl
  sizeByte := by kernel_rfl
  neB5 := by decide }
open Go.RowKit in
/-- No element: the empty string; the world is as it was. (Whatever the slice's address and capacity: a nil slice too.) (LAID: no walk: one application.) -/
theorem Tryz.strings_Join_none (a : Option Addr) (c : Nat) (sep : ByteArray) (w : World) :
    Calls Tryz.prog 66 #[.slice a 0 c, .string sep] w fun e w' => e = .returned (.string ⟨#[]⟩) ∧ w' = w := Any.strings_Join_none Tryz.lays156 Tryz.Builder_Extra_156 a c sep w
open Go.RowKit in
/-- strings.Join: "Join concatenates the elements of its first argument to create a single string. The separator string sep is placed between elements in the resulting string.": HOWEVER MANY ELEMENTS. Below the heap's end the world is as it was. (LAID: no walk: one application.) -/
theorem Tryz.strings_Join (bk o c : Nat) (xs : List ByteArray) (sep : ByteArray) (w : World) (hcells : ∀ (j : Nat) x, xs[j]? = some x → w.cell? ⟨bk, o + j, none⟩ = some (.string x)) (hbk : bk < w.heap.size) (hN : xs.length ≤ 140737488355328) (hcap : xs.length ≤ c) (hlen : (Lib.join (xs.map (·.data.toList)) sep.data.toList).length ≤ 140737488355328) :
    Calls Tryz.prog 66 #[.slice (some ⟨bk, o, none⟩) xs.length c, .string sep] w fun e w' => e = .returned (.string ⟨(Lib.join (xs.map (·.data.toList)) sep.data.toList).toArray⟩) ∧ Below w.heap.size w w' := Any.strings_Join Tryz.lays156 Tryz.Builder_Extra_156 bk o c xs sep w hcells hbk hN hcap hlen
def Tryz.laysM173_ren : Go.Shelf.Ren := ⟨fun | 173 => 63 | 246 => 86 | 283 => 109 | 284 => 110 | 285 => 111 | 286 => 112 | 129 => 132 | 317 => 131 | 318 => 133 | 319 => 134 | 320 => 135 | 337 => 146 | 338 => 147 | n => n, fun | 2 => 2 | 3 => 3 | 9 => 9 | 4 => 4 | 171 => 162 | 0 => 0 | 53 => 94 | 37 => 22 | 5 => 5 | 173 => 165 | 212 => 179 | 51 => 180 | 20 => 20 | 213 => 181 | 46 => 125 | 232 => 202 | 233 => 203 | n => n, fun | 17 => 3 | 18 => 6 | 19 => 7 | n => n⟩
theorem Tryz.laysM173 : Go.Proofs.LaysM.n173 Tryz.prog Tryz.laysM173_ren := {
  mixed := by kernel_rfl
  f129 := Tryz.func132.trans (congrArg some (by kernel_rfl))
  f173 := Tryz.func63.trans (congrArg some (by kernel_rfl))
  f246 := Tryz.func86.trans (congrArg some (by kernel_rfl))
  f283 := Tryz.func109.trans (congrArg some (by kernel_rfl))
  f284 := Tryz.func110.trans (congrArg some (by kernel_rfl))
  f285 := Tryz.func111.trans (congrArg some (by kernel_rfl))
  f286 := Tryz.func112.trans (congrArg some (by kernel_rfl))
  f317 := Tryz.func131.trans (congrArg some (by kernel_rfl))
  f318 := Tryz.func133.trans (congrArg some (by kernel_rfl))
  f319 := Tryz.func134.trans (congrArg some (by kernel_rfl))
  f320 := Tryz.func135.trans (congrArg some (by kernel_rfl))
  f337 := Tryz.func146.trans (congrArg some (by kernel_rfl))
  f338 := Tryz.func147.trans (congrArg some (by kernel_rfl))
  t0 := Tryz.underlying0
  a0 := Tryz.isAgg0
  z0 := Tryz.sizeOf0
  v0 := Tryz.zeroValue0
  t2 := Tryz.underlying2
  a2 := Tryz.isAgg2
  z2 := Tryz.sizeOf2
  v2 := Tryz.zeroValue2
  t3 := Tryz.underlying3
  a3 := Tryz.isAgg3
  z3 := Tryz.sizeOf3
  v3 := Tryz.zeroValue3
  t4 := Tryz.underlying4
  a4 := Tryz.isAgg4
  z4 := Tryz.sizeOf4
  v4 := Tryz.zeroValue4
  t5 := Tryz.underlying5
  a5 := Tryz.isAgg5
  z5 := Tryz.sizeOf5
  v5 := Tryz.zeroValue5
  t9 := Tryz.underlying9
  a9 := Tryz.isAgg9
  z9 := Tryz.sizeOf9
  v9 := Tryz.zeroValue9
  t20 := Tryz.underlying20
  a20 := Tryz.isAgg20
  z20 := Tryz.sizeOf20
  v20 := Tryz.zeroValue20
  t37 := Tryz.underlying22
  a37 := Tryz.isAgg22
  z37 := Tryz.sizeOf22
  v37 := Tryz.zeroValue22
  t46 := Tryz.underlying125
  a46 := Tryz.isAgg125
  z46 := Tryz.sizeOf125
  v46 := Tryz.zeroValue125
  t51 := Tryz.underlying180
  a51 := Tryz.isAgg180
  z51 := Tryz.sizeOf180
  v51 := Tryz.zeroValue180
  t53 := Tryz.underlying94
  a53 := Tryz.isAgg94
  z53 := Tryz.sizeOf94
  v53 := Tryz.zeroValue94
  t171 := Tryz.underlying162
  a171 := Tryz.isAgg162
  z171 := Tryz.sizeOf162
  v171 := Tryz.zeroValue162
  t173 := Tryz.underlying165
  a173 := Tryz.isAgg165
  z173 := Tryz.sizeOf165
  v173 := Tryz.zeroValue165
  t212 := Tryz.underlying179
  a212 := Tryz.isAgg179
  z212 := Tryz.sizeOf179
  v212 := Tryz.zeroValue179
  t213 := Tryz.underlying181
  a213 := Tryz.isAgg181
  z213 := Tryz.sizeOf181
  t232 := Tryz.underlying202
  a232 := Tryz.isAgg202
  z232 := Tryz.sizeOf202
  v232 := Tryz.zeroValue202
  t233 := Tryz.underlying203
  a233 := Tryz.isAgg203
  z233 := Tryz.sizeOf203
  v233 := Tryz.zeroValue203
  g17 := by kernel_rfl
  g18 := by kernel_rfl
  g19 := by kernel_rfl
  i0 := by kernel_rfl
  i2 := by kernel_rfl
  i3 := by kernel_rfl
  i4 := by kernel_rfl
  i5 := by kernel_rfl
  i9 := by kernel_rfl
  i20 := by kernel_rfl
  i37 := by kernel_rfl
  i46 := by kernel_rfl
  i51 := by kernel_rfl
  i53 := by kernel_rfl
  i171 := by kernel_rfl
  i173 := by kernel_rfl
  i212 := by kernel_rfl
  i232 := by kernel_rfl
  i233 := by kernel_rfl
  m17 := by kernel_rfl
  m18 := by kernel_rfl
  m19 := by kernel_rfl }
open Go.RowKit Go.Sort Go.Lib in
/-- strconv.FormatInt: "FormatInt returns the string representation of i in the given base": AT BASE 10: i's decimal numeral, for every int64. (LAID: no walk: one application.) -/
theorem Tryz.strconv_FormatInt_10 (n : Int) (h0 : -9223372036854775808 ≤ n) (h1 : n ≤ 9223372036854775807) (w : World) (htab : Lib.TabIs Tryz.prog w "internal/strconv.uint64pow10" .u64 Lib.pow10Tab) :
    Calls Tryz.prog 63 #[.int .i64 n, .int .i64 10] w fun e w' => e = .returned (.string ⟨(Lib.itoa n).toArray⟩) ∧ ∃ k os, w' = grow (w.drewN k) os := Any.strconv_FormatInt_10 Tryz.laysM173 n h0 h1 w htab
def Tryz.laysC174_ren : Go.Shelf.Ren := ⟨fun | 174 => 60 | 247 => 83 | 245 => 84 | 287 => 85 | 279 => 103 | 280 => 104 | 281 => 105 | 282 => 106 | 321 => 107 | 322 => 108 | 316 => 128 | 171 => 130 | 205 => 129 | 243 => 145 | 246 => 86 | 283 => 109 | 284 => 110 | 285 => 111 | 286 => 112 | 129 => 132 | 317 => 131 | 318 => 133 | 319 => 134 | 320 => 135 | 337 => 146 | 338 => 147 | n => n, fun | 9 => 9 | 3 => 3 | 2 => 2 | 75 => 113 | 85 => 114 | 4 => 4 | 167 => 155 | 5 => 5 | 53 => 94 | 175 => 116 | 46 => 125 | 168 => 156 | 37 => 22 | 0 => 0 | 210 => 176 | 21 => 21 | 127 => 171 | 145 => 200 | 143 => 198 | 171 => 162 | 173 => 165 | 212 => 179 | 51 => 180 | 20 => 20 | 213 => 181 | 232 => 202 | 233 => 203 | 80 => 146 | n => n, fun | 15 => 1 | 16 => 2 | 17 => 3 | 18 => 6 | 19 => 7 | n => n⟩
theorem Tryz.laysC174 : Go.Proofs.LaysC.n174 Tryz.prog Tryz.laysC174_ren := {
  mixed := by kernel_rfl
  f129 := Tryz.func132.trans (congrArg some (by kernel_rfl))
  f171 := Tryz.func130.trans (congrArg some (by kernel_rfl))
  f174 := Tryz.func60.trans (congrArg some (by kernel_rfl))
  f205 := Tryz.func129.trans (congrArg some (by kernel_rfl))
  f243 := Tryz.func145.trans (congrArg some (by kernel_rfl))
  f245 := Tryz.func84.trans (congrArg some (by kernel_rfl))
  f246 := Tryz.func86.trans (congrArg some (by kernel_rfl))
  f247 := Tryz.func83.trans (congrArg some (by kernel_rfl))
  f279 := Tryz.func103.trans (congrArg some (by kernel_rfl))
  f280 := Tryz.func104.trans (congrArg some (by kernel_rfl))
  f281 := Tryz.func105.trans (congrArg some (by kernel_rfl))
  f282 := Tryz.func106.trans (congrArg some (by kernel_rfl))
  f283 := Tryz.func109.trans (congrArg some (by kernel_rfl))
  f284 := Tryz.func110.trans (congrArg some (by kernel_rfl))
  f285 := Tryz.func111.trans (congrArg some (by kernel_rfl))
  f286 := Tryz.func112.trans (congrArg some (by kernel_rfl))
  f287 := Tryz.func85.trans (congrArg some (by kernel_rfl))
  f316 := Tryz.func128.trans (congrArg some (by kernel_rfl))
  f317 := Tryz.func131.trans (congrArg some (by kernel_rfl))
  f318 := Tryz.func133.trans (congrArg some (by kernel_rfl))
  f319 := Tryz.func134.trans (congrArg some (by kernel_rfl))
  f320 := Tryz.func135.trans (congrArg some (by kernel_rfl))
  f321 := Tryz.func107.trans (congrArg some (by kernel_rfl))
  f322 := Tryz.func108.trans (congrArg some (by kernel_rfl))
  f337 := Tryz.func146.trans (congrArg some (by kernel_rfl))
  f338 := Tryz.func147.trans (congrArg some (by kernel_rfl))
  t0 := Tryz.underlying0
  a0 := Tryz.isAgg0
  z0 := Tryz.sizeOf0
  v0 := Tryz.zeroValue0
  t2 := Tryz.underlying2
  a2 := Tryz.isAgg2
  z2 := Tryz.sizeOf2
  v2 := Tryz.zeroValue2
  t3 := Tryz.underlying3
  a3 := Tryz.isAgg3
  z3 := Tryz.sizeOf3
  v3 := Tryz.zeroValue3
  t4 := Tryz.underlying4
  a4 := Tryz.isAgg4
  z4 := Tryz.sizeOf4
  v4 := Tryz.zeroValue4
  t5 := Tryz.underlying5
  a5 := Tryz.isAgg5
  z5 := Tryz.sizeOf5
  v5 := Tryz.zeroValue5
  t9 := Tryz.underlying9
  a9 := Tryz.isAgg9
  z9 := Tryz.sizeOf9
  v9 := Tryz.zeroValue9
  t20 := Tryz.underlying20
  a20 := Tryz.isAgg20
  z20 := Tryz.sizeOf20
  v20 := Tryz.zeroValue20
  t21 := Tryz.underlying21
  a21 := Tryz.isAgg21
  z21 := Tryz.sizeOf21
  v21 := Tryz.zeroValue21
  t37 := Tryz.underlying22
  a37 := Tryz.isAgg22
  z37 := Tryz.sizeOf22
  v37 := Tryz.zeroValue22
  t46 := Tryz.underlying125
  a46 := Tryz.isAgg125
  z46 := Tryz.sizeOf125
  v46 := Tryz.zeroValue125
  t51 := Tryz.underlying180
  a51 := Tryz.isAgg180
  z51 := Tryz.sizeOf180
  v51 := Tryz.zeroValue180
  t53 := Tryz.underlying94
  a53 := Tryz.isAgg94
  z53 := Tryz.sizeOf94
  v53 := Tryz.zeroValue94
  t75 := Tryz.underlying113
  a75 := Tryz.isAgg113
  z75 := Tryz.sizeOf113
  v75 := Tryz.zeroValue113
  t85 := Tryz.underlying114
  a85 := Tryz.isAgg114
  z85 := Tryz.sizeOf114
  v85 := Tryz.zeroValue114
  t127 := Tryz.underlying171
  a127 := Tryz.isAgg171
  z127 := Tryz.sizeOf171
  v127 := Tryz.zeroValue171
  t143 := Tryz.underlying198
  a143 := Tryz.isAgg198
  z143 := Tryz.sizeOf198
  v143 := Tryz.zeroValue198
  t145 := Tryz.underlying200
  a145 := Tryz.isAgg200
  z145 := Tryz.sizeOf200
  v145 := Tryz.zeroValue200
  t167 := Tryz.underlying155
  a167 := Tryz.isAgg155
  z167 := Tryz.sizeOf155
  v167 := Tryz.zeroValue155
  t168 := Tryz.underlying156
  a168 := Tryz.isAgg156
  z168 := Tryz.sizeOf156
  v168 := Tryz.zeroValue156
  t171 := Tryz.underlying162
  a171 := Tryz.isAgg162
  z171 := Tryz.sizeOf162
  v171 := Tryz.zeroValue162
  t173 := Tryz.underlying165
  a173 := Tryz.isAgg165
  z173 := Tryz.sizeOf165
  v173 := Tryz.zeroValue165
  t175 := Tryz.underlying116
  a175 := Tryz.isAgg116
  z175 := Tryz.sizeOf116
  v175 := Tryz.zeroValue116
  t210 := Tryz.underlying176
  a210 := Tryz.isAgg176
  z210 := Tryz.sizeOf176
  v210 := Tryz.zeroValue176
  t212 := Tryz.underlying179
  a212 := Tryz.isAgg179
  z212 := Tryz.sizeOf179
  v212 := Tryz.zeroValue179
  t213 := Tryz.underlying181
  a213 := Tryz.isAgg181
  z213 := Tryz.sizeOf181
  t232 := Tryz.underlying202
  a232 := Tryz.isAgg202
  z232 := Tryz.sizeOf202
  v232 := Tryz.zeroValue202
  t233 := Tryz.underlying203
  a233 := Tryz.isAgg203
  z233 := Tryz.sizeOf203
  v233 := Tryz.zeroValue203
  g15 := by kernel_rfl
  g16 := by kernel_rfl
  g17 := by kernel_rfl
  g18 := by kernel_rfl
  g19 := by kernel_rfl
  t80 := Tryz.underlying146
  a80 := Tryz.isAgg146
  z80 := Tryz.sizeOf146
  v80 := Tryz.zeroValue146
  i0 := by kernel_rfl
  i2 := by kernel_rfl
  i3 := by kernel_rfl
  i4 := by kernel_rfl
  i5 := by kernel_rfl
  i9 := by kernel_rfl
  i20 := by kernel_rfl
  i21 := by kernel_rfl
  i37 := by kernel_rfl
  i46 := by kernel_rfl
  i51 := by kernel_rfl
  i53 := by kernel_rfl
  i75 := by kernel_rfl
  i80 := by kernel_rfl
  i85 := by kernel_rfl
  i127 := by kernel_rfl
  i143 := by kernel_rfl
  i145 := by kernel_rfl
  i167 := by kernel_rfl
  i168 := by kernel_rfl
  i171 := by kernel_rfl
  i173 := by kernel_rfl
  i175 := by kernel_rfl
  i210 := by kernel_rfl
  i212 := by kernel_rfl
  i232 := by kernel_rfl
  i233 := by kernel_rfl
  m15 := by kernel_rfl
  m16 := by kernel_rfl
  m17 := by kernel_rfl
  m18 := by kernel_rfl
  m19 := by kernel_rfl
  c0 := by kernel_rfl
  c2 := by kernel_rfl
  c3 := by kernel_rfl
  c4 := by kernel_rfl
  c5 := by kernel_rfl
  c9 := by kernel_rfl
  c20 := by kernel_rfl
  c21 := by kernel_rfl
  c37 := by kernel_rfl
  c46 := by kernel_rfl
  c51 := by kernel_rfl
  c53 := by kernel_rfl
  c75 := by kernel_rfl
  c80 := by kernel_rfl
  c85 := by kernel_rfl
  c127 := by kernel_rfl
  c143 := by kernel_rfl
  c145 := by kernel_rfl
  c167 := by kernel_rfl
  c168 := by kernel_rfl
  c171 := by kernel_rfl
  c173 := by kernel_rfl
  c175 := by kernel_rfl
  c210 := by kernel_rfl
  c212 := by kernel_rfl
  c213 := by kernel_rfl
  c232 := by kernel_rfl
  c233 := by kernel_rfl }
open Go.RowKit in
/-- strconv.ParseInt(s, 10, 64), AT EVERY STRING THAT SPELLS AN int64 ('Lib.parseIntB 64 s.data.toList = .ok v'): v, AND NO ERROR. (LAID: no walk: one application.) -/
theorem Tryz.strconv_ParseInt_10_at64_ok (s : ByteArray) (hmax : s.size ≤ 9223372036854775806) (v : Int) (h : Lib.parseIntB 64 s.data.toList = .ok v) (w : World) :
    Calls Tryz.prog 60 #[.string s, .int .i64 10, .int .i64 64] w fun e w' => e = .returned (.tuple #[.int .i64 v, .nilIface]) ∧ (w' = w ∨ ∃ t, w' = Lib.bytesWorld w 5 t) := Any.strconv_ParseInt_10_at64_ok Tryz.laysC174 s hmax v h w
open Go.RowKit in
/-- strconv.ParseInt(s, 10, 64), AT EVERY STRING THAT IS NO DECIMAL NUMERAL: 0, AND AN ERROR THAT IS NOT nil: a *NumError in a new block N: {Func: "ParseInt", Num: s's bytes, Err: what the variable ErrSyntax holds}. Of what was there nothing has turned. (LAID: no walk: one application.) -/
theorem Tryz.strconv_ParseInt_10_at64_syntax (s : ByteArray) (hlim : s.size ≤ 281474976710656) (h : Lib.parseIntB 64 s.data.toList = Lib.parseIntB 64 []) (ev : Value) (w : World) (hv : w.cell? ⟨1, 0, none⟩ = some ev) (hev : ev = .nilIface ∨ ∃ te pe, ev = .iface te pe) :
    Calls Tryz.prog 60 #[.string s, .int .i64 10, .int .i64 64] w fun e w' => ∃ N, e = .returned (.tuple #[.int .i64 (0), .iface 156 (.pointer (some ⟨N, 0, none⟩))]) ∧ w.heap.size ≤ N ∧ w'.heap[N]? = some (.cells #[.string ⟨#[80, 97, 114, 115, 101, 73, 110, 116]⟩, .string s, ev] 176 (0, 0)) ∧ Below w.heap.size w w' := Any.strconv_ParseInt_10_at64_syntax Tryz.laysC174 s hlim h ev w hv hev
open Go.RowKit in
/-- strconv.ParseInt(s, 10, 64), AT EVERY NUMERAL THAT NO int64 HOLDS: THE GREATEST OR THE LEAST int64, BY THE SIGN ('Lib.intSat 64'), AND AN ERROR THAT IS NOT nil: a *NumError in a new block N: {Func: "ParseInt", Num: s's bytes, Err: what the variable ErrRange holds}. Of what was there nothing has turned. (LAID: no walk: one application.) -/
theorem Tryz.strconv_ParseInt_10_at64_range (s : ByteArray) (hlim : s.size ≤ 281474976710656) (h : Lib.parseIntB 64 s.data.toList = .range) (ev : Value) (w : World) (hv : w.cell? ⟨2, 0, none⟩ = some ev) (hev : ev = .nilIface ∨ ∃ te pe, ev = .iface te pe) :
    Calls Tryz.prog 60 #[.string s, .int .i64 10, .int .i64 64] w fun e w' => ∃ N, e = .returned (.tuple #[.int .i64 (Lib.intSat 64 s.data.toList), .iface 156 (.pointer (some ⟨N, 0, none⟩))]) ∧ w.heap.size ≤ N ∧ w'.heap[N]? = some (.cells #[.string ⟨#[80, 97, 114, 115, 101, 73, 110, 116]⟩, .string s, ev] 176 (0, 0)) ∧ Below w.heap.size w w' := Any.strconv_ParseInt_10_at64_range Tryz.laysC174 s hlim h ev w hv hev
def Tryz.laysPu14_ren : Go.Shelf.Ren := ⟨fun | 14 => 61 | 16 => 85 | 17 => 84 | 19 => 107 | 20 => 108 | 21 => 103 | 22 => 104 | 23 => 105 | 24 => 106 | 25 => 128 | 27 => 130 | 26 => 129 | 28 => 145 | 29 => 86 | 30 => 109 | 31 => 110 | 32 => 111 | 33 => 112 | 35 => 132 | 34 => 131 | 36 => 133 | 37 => 134 | 38 => 135 | 39 => 146 | 40 => 147 | n => n, fun | 9 => 9 | 3 => 3 | 22 => 94 | 24 => 113 | 25 => 116 | 4 => 4 | 34 => 155 | 5 => 5 | 36 => 125 | 37 => 22 | 0 => 0 | 39 => 156 | 21 => 21 | 44 => 176 | 47 => 171 | 50 => 200 | 48 => 198 | 2 => 2 | 52 => 162 | 55 => 165 | 59 => 179 | 60 => 180 | 20 => 20 | 61 => 181 | 65 => 202 | 66 => 203 | 67 => 146 | n => n, fun | 0 => 1 | 1 => 2 | 2 => 3 | 3 => 6 | 4 => 7 | n => n⟩
theorem Tryz.laysPu14 : Go.Proofs.LaysPu.n14 Tryz.prog Tryz.laysPu14_ren := {
  mixed := by kernel_rfl
  f14 := Tryz.func61.trans (congrArg some (by kernel_rfl))
  f16 := Tryz.func85.trans (congrArg some (by kernel_rfl))
  f17 := Tryz.func84.trans (congrArg some (by kernel_rfl))
  f19 := Tryz.func107.trans (congrArg some (by kernel_rfl))
  f20 := Tryz.func108.trans (congrArg some (by kernel_rfl))
  f21 := Tryz.func103.trans (congrArg some (by kernel_rfl))
  f22 := Tryz.func104.trans (congrArg some (by kernel_rfl))
  f23 := Tryz.func105.trans (congrArg some (by kernel_rfl))
  f24 := Tryz.func106.trans (congrArg some (by kernel_rfl))
  f25 := Tryz.func128.trans (congrArg some (by kernel_rfl))
  f26 := Tryz.func129.trans (congrArg some (by kernel_rfl))
  f27 := Tryz.func130.trans (congrArg some (by kernel_rfl))
  f28 := Tryz.func145.trans (congrArg some (by kernel_rfl))
  f29 := Tryz.func86.trans (congrArg some (by kernel_rfl))
  f30 := Tryz.func109.trans (congrArg some (by kernel_rfl))
  f31 := Tryz.func110.trans (congrArg some (by kernel_rfl))
  f32 := Tryz.func111.trans (congrArg some (by kernel_rfl))
  f33 := Tryz.func112.trans (congrArg some (by kernel_rfl))
  f34 := Tryz.func131.trans (congrArg some (by kernel_rfl))
  f35 := Tryz.func132.trans (congrArg some (by kernel_rfl))
  f36 := Tryz.func133.trans (congrArg some (by kernel_rfl))
  f37 := Tryz.func134.trans (congrArg some (by kernel_rfl))
  f38 := Tryz.func135.trans (congrArg some (by kernel_rfl))
  f39 := Tryz.func146.trans (congrArg some (by kernel_rfl))
  f40 := Tryz.func147.trans (congrArg some (by kernel_rfl))
  t0 := Tryz.underlying0
  a0 := Tryz.isAgg0
  z0 := Tryz.sizeOf0
  v0 := Tryz.zeroValue0
  i0 := by kernel_rfl
  t2 := Tryz.underlying2
  a2 := Tryz.isAgg2
  z2 := Tryz.sizeOf2
  v2 := Tryz.zeroValue2
  i2 := by kernel_rfl
  t3 := Tryz.underlying3
  a3 := Tryz.isAgg3
  z3 := Tryz.sizeOf3
  v3 := Tryz.zeroValue3
  i3 := by kernel_rfl
  t4 := Tryz.underlying4
  a4 := Tryz.isAgg4
  z4 := Tryz.sizeOf4
  v4 := Tryz.zeroValue4
  i4 := by kernel_rfl
  t5 := Tryz.underlying5
  a5 := Tryz.isAgg5
  z5 := Tryz.sizeOf5
  v5 := Tryz.zeroValue5
  i5 := by kernel_rfl
  t9 := Tryz.underlying9
  a9 := Tryz.isAgg9
  z9 := Tryz.sizeOf9
  v9 := Tryz.zeroValue9
  i9 := by kernel_rfl
  t20 := Tryz.underlying20
  a20 := Tryz.isAgg20
  z20 := Tryz.sizeOf20
  v20 := Tryz.zeroValue20
  i20 := by kernel_rfl
  t21 := Tryz.underlying21
  a21 := Tryz.isAgg21
  z21 := Tryz.sizeOf21
  v21 := Tryz.zeroValue21
  i21 := by kernel_rfl
  t22 := Tryz.underlying94
  a22 := Tryz.isAgg94
  z22 := Tryz.sizeOf94
  v22 := Tryz.zeroValue94
  i22 := by kernel_rfl
  t24 := Tryz.underlying113
  a24 := Tryz.isAgg113
  z24 := Tryz.sizeOf113
  v24 := Tryz.zeroValue113
  i24 := by kernel_rfl
  t25 := Tryz.underlying116
  a25 := Tryz.isAgg116
  z25 := Tryz.sizeOf116
  v25 := Tryz.zeroValue116
  i25 := by kernel_rfl
  t34 := Tryz.underlying155
  a34 := Tryz.isAgg155
  z34 := Tryz.sizeOf155
  v34 := Tryz.zeroValue155
  i34 := by kernel_rfl
  c34 := by kernel_rfl
  t36 := Tryz.underlying125
  a36 := Tryz.isAgg125
  z36 := Tryz.sizeOf125
  v36 := Tryz.zeroValue125
  i36 := by kernel_rfl
  t37 := Tryz.underlying22
  a37 := Tryz.isAgg22
  z37 := Tryz.sizeOf22
  v37 := Tryz.zeroValue22
  i37 := by kernel_rfl
  t39 := Tryz.underlying156
  a39 := Tryz.isAgg156
  z39 := Tryz.sizeOf156
  v39 := Tryz.zeroValue156
  i39 := by kernel_rfl
  t44 := Tryz.underlying176
  a44 := Tryz.isAgg176
  z44 := Tryz.sizeOf176
  v44 := Tryz.zeroValue176
  i44 := by kernel_rfl
  t47 := Tryz.underlying171
  a47 := Tryz.isAgg171
  z47 := Tryz.sizeOf171
  v47 := Tryz.zeroValue171
  i47 := by kernel_rfl
  t48 := Tryz.underlying198
  a48 := Tryz.isAgg198
  z48 := Tryz.sizeOf198
  v48 := Tryz.zeroValue198
  i48 := by kernel_rfl
  t50 := Tryz.underlying200
  a50 := Tryz.isAgg200
  z50 := Tryz.sizeOf200
  v50 := Tryz.zeroValue200
  i50 := by kernel_rfl
  t52 := Tryz.underlying162
  a52 := Tryz.isAgg162
  z52 := Tryz.sizeOf162
  v52 := Tryz.zeroValue162
  i52 := by kernel_rfl
  t55 := Tryz.underlying165
  a55 := Tryz.isAgg165
  z55 := Tryz.sizeOf165
  v55 := Tryz.zeroValue165
  i55 := by kernel_rfl
  t59 := Tryz.underlying179
  a59 := Tryz.isAgg179
  z59 := Tryz.sizeOf179
  v59 := Tryz.zeroValue179
  i59 := by kernel_rfl
  t60 := Tryz.underlying180
  a60 := Tryz.isAgg180
  z60 := Tryz.sizeOf180
  v60 := Tryz.zeroValue180
  i60 := by kernel_rfl
  t61 := Tryz.underlying181
  a61 := Tryz.isAgg181
  z61 := Tryz.sizeOf181
  t65 := Tryz.underlying202
  a65 := Tryz.isAgg202
  z65 := Tryz.sizeOf202
  v65 := Tryz.zeroValue202
  i65 := by kernel_rfl
  t66 := Tryz.underlying203
  a66 := Tryz.isAgg203
  z66 := Tryz.sizeOf203
  v66 := Tryz.zeroValue203
  i66 := by kernel_rfl
  t67 := Tryz.underlying146
  a67 := Tryz.isAgg146
  z67 := Tryz.sizeOf146
  v67 := Tryz.zeroValue146
  i67 := by kernel_rfl
  g0 := by kernel_rfl
  m0 := by kernel_rfl
  g1 := by kernel_rfl
  m1 := by kernel_rfl
  g2 := by kernel_rfl
  m2 := by kernel_rfl
  g3 := by kernel_rfl
  m3 := by kernel_rfl
  g4 := by kernel_rfl
  m4 := by kernel_rfl }
open Go.RowKit in
/-- strconv.ParseUint(s, 10, 8), AT EVERY STRING THAT SPELLS A uint8 ('Lib.parseUintB 8 s.data.toList = .ok u'): u, AND NO ERROR. (LAID: no walk: one application.) -/
theorem Tryz.strconv_ParseUint_10_at8_ok (s : ByteArray) (hmax : s.size ≤ 9223372036854775806) (u : Nat) (h : Lib.parseUintB 8 s.data.toList = .ok u) (w : World) :
    Calls Tryz.prog 61 #[.string s, .int .i64 10, .int .i64 8] w fun e w' => e = .returned (.tuple #[.int .u64 u, .nilIface]) ∧ (w' = w ∨ w' = Lib.bytesWorld w 5 s) := Any.strconv_ParseUint_10_at8_ok Tryz.laysPu14 s hmax u h w
open Go.RowKit in
/-- strconv.ParseUint(s, 10, 8), AT EVERY STRING THAT IS NO ROW OF DECIMAL DIGITS (a sign is a fault): 0, AND AN ERROR THAT IS NOT nil: a *NumError in a new block N: {Func: "ParseUint", Num: s's bytes, Err: what the variable ErrSyntax holds}. Of what was there nothing has turned. (LAID: no walk: one application.) -/
theorem Tryz.strconv_ParseUint_10_at8_syntax (s : ByteArray) (hlim : s.size ≤ 281474976710656) (h : Lib.parseUintB 8 s.data.toList = Lib.parseUintB 8 []) (ev : Value) (w : World) (hv : w.cell? ⟨1, 0, none⟩ = some ev) (hev : ev = .nilIface ∨ ∃ te pe, ev = .iface te pe) :
    Calls Tryz.prog 61 #[.string s, .int .i64 10, .int .i64 8] w fun e w' => ∃ N, e = .returned (.tuple #[.int .u64 0, .iface 156 (.pointer (some ⟨N, 0, none⟩))]) ∧ w.heap.size ≤ N ∧ w'.heap[N]? = some (.cells #[.string ⟨#[80, 97, 114, 115, 101, 85, 105, 110, 116]⟩, .string s, ev] 176 (0, 0)) ∧ Below w.heap.size w w' := Any.strconv_ParseUint_10_at8_syntax Tryz.laysPu14 s hlim h ev w hv hev
open Go.RowKit in
/-- strconv.ParseUint(s, 10, 8), AT EVERY NUMERAL THAT NO uint8 HOLDS: THE GREATEST uint8, AND AN ERROR THAT IS NOT nil: a *NumError in a new block N: {Func: "ParseUint", Num: s's bytes, Err: what the variable ErrRange holds}. Of what was there nothing has turned. (LAID: no walk: one application.) -/
theorem Tryz.strconv_ParseUint_10_at8_range (s : ByteArray) (hlim : s.size ≤ 281474976710656) (h : Lib.parseUintB 8 s.data.toList = .range) (ev : Value) (w : World) (hv : w.cell? ⟨2, 0, none⟩ = some ev) (hev : ev = .nilIface ∨ ∃ te pe, ev = .iface te pe) :
    Calls Tryz.prog 61 #[.string s, .int .i64 10, .int .i64 8] w fun e w' => ∃ N, e = .returned (.tuple #[.int .u64 255, .iface 156 (.pointer (some ⟨N, 0, none⟩))]) ∧ w.heap.size ≤ N ∧ w'.heap[N]? = some (.cells #[.string ⟨#[80, 97, 114, 115, 101, 85, 105, 110, 116]⟩, .string s, ev] 176 (0, 0)) ∧ Below w.heap.size w w' := Any.strconv_ParseUint_10_at8_range Tryz.laysPu14 s hlim h ev w hv hev
def Tryz.lays146_ren : Go.Shelf.Ren := ⟨fun | 146 => 31 | 221 => 59 | 268 => 80 | 138 => 81 | 143 => 82 | 195 => 99 | 197 => 100 | 218 => 101 | 219 => 102 | 260 => 123 | 217 => 124 | 225 => 125 | 224 => 126 | 267 => 127 | 266 => 143 | 314 => 144 | n => n, fun | 9 => 9 | 31 => 75 | 3 => 3 | 4 => 4 | 0 => 0 | 105 => 152 | 21 => 21 | 5 => 5 | 46 => 125 | 119 => 193 | 139 => 196 | 138 => 195 | 146 => 184 | 51 => 180 | n => n, fun | 1 => 0 | 3 => 4 | 4 => 5 | n => n⟩
theorem Tryz.lays146 : Go.Proofs.Lays.n146 Tryz.prog Tryz.lays146_ren := {
  mixed := by kernel_rfl
  f138 := Tryz.func81.trans (congrArg some (by kernel_rfl))
  f143 := Tryz.func82.trans (congrArg some (by kernel_rfl))
  f146 := Tryz.func31.trans (congrArg some (by kernel_rfl))
  f195 := Tryz.func99.trans (congrArg some (by kernel_rfl))
  f197 := Tryz.func100.trans (congrArg some (by kernel_rfl))
  f217 := Tryz.func124.trans (congrArg some (by kernel_rfl))
  f218 := Tryz.func101.trans (congrArg some (by kernel_rfl))
  f219 := Tryz.func102.trans (congrArg some (by kernel_rfl))
  f221 := Tryz.func59.trans (congrArg some (by kernel_rfl))
  f224 := Tryz.func126.trans (congrArg some (by kernel_rfl))
  f225 := Tryz.func125.trans (congrArg some (by kernel_rfl))
  f260 := Tryz.func123.trans (congrArg some (by kernel_rfl))
  f266 := Tryz.func143.trans (congrArg some (by kernel_rfl))
  f267 := Tryz.func127.trans (congrArg some (by kernel_rfl))
  f268 := Tryz.func80.trans (congrArg some (by kernel_rfl))
  f314 := Tryz.func144.trans (congrArg some (by kernel_rfl))
  t0 := Tryz.underlying0
  a0 := Tryz.isAgg0
  z0 := Tryz.sizeOf0
  v0 := Tryz.zeroValue0
  t3 := Tryz.underlying3
  a3 := Tryz.isAgg3
  z3 := Tryz.sizeOf3
  v3 := Tryz.zeroValue3
  t4 := Tryz.underlying4
  a4 := Tryz.isAgg4
  z4 := Tryz.sizeOf4
  v4 := Tryz.zeroValue4
  t5 := Tryz.underlying5
  a5 := Tryz.isAgg5
  z5 := Tryz.sizeOf5
  v5 := Tryz.zeroValue5
  t9 := Tryz.underlying9
  a9 := Tryz.isAgg9
  z9 := Tryz.sizeOf9
  v9 := Tryz.zeroValue9
  t21 := Tryz.underlying21
  a21 := Tryz.isAgg21
  z21 := Tryz.sizeOf21
  v21 := Tryz.zeroValue21
  t31 := Tryz.underlying75
  a31 := Tryz.isAgg75
  z31 := Tryz.sizeOf75
  v31 := Tryz.zeroValue75
  t46 := Tryz.underlying125
  a46 := Tryz.isAgg125
  z46 := Tryz.sizeOf125
  v46 := Tryz.zeroValue125
  t51 := Tryz.underlying180
  a51 := Tryz.isAgg180
  z51 := Tryz.sizeOf180
  v51 := Tryz.zeroValue180
  t105 := Tryz.underlying152
  a105 := Tryz.isAgg152
  z105 := Tryz.sizeOf152
  v105 := Tryz.zeroValue152
  t119 := Tryz.underlying193
  a119 := Tryz.isAgg193
  z119 := Tryz.sizeOf193
  t138 := Tryz.underlying195
  a138 := Tryz.isAgg195
  z138 := Tryz.sizeOf195
  v138 := Tryz.zeroValue195
  t139 := Tryz.underlying196
  a139 := Tryz.isAgg196
  z139 := Tryz.sizeOf196
  v139 := Tryz.zeroValue196
  t146 := Tryz.underlying184
  a146 := Tryz.isAgg184
  z146 := Tryz.sizeOf184
  v146 := Tryz.zeroValue184
  g1 := by kernel_rfl
  g3 := by kernel_rfl
  g4 := by kernel_rfl }
open Go.RowKit Go.Lib in
/-- strings.Split. (LAID: no walk: one application.) -/
theorem Tryz.strings_Split (s sep : ByteArray) (m : Int) (w : World) (hs : s.size < 4294967281) (hm : w.cell? ⟨0, 0, none⟩ = some (.int .i64 m)) (h1 : 1 ≤ sep.size) :
    Calls Tryz.prog 31 #[.string s, .string sep] w fun e w' =>
      e = .returned (.slice (some ⟨w.heap.size, 0, none⟩) (Lib.countB s sep + 1) (Lib.countB s sep + 1)) ∧ w' = w.alloc (.cells ((Lib.splitB sep 0 (Lib.countB s sep) s).map Value.string).toArray 9) := Any.strings_Split Tryz.lays146 (by kernel_rfl) s sep m w hs hm h1
def Tryz.lays105_ren : Go.Shelf.Ren := ⟨fun | 105 => 88 | 212 => 113 | 99 => 114 | 165 => 89 | 166 => 90 | 170 => 115 | 169 => 91 | 263 => 136 | 264 => 137 | 206 => 138 | 240 => 116 | 241 => 117 | 276 => 139 | 277 => 140 | n => n, fun | 9 => 9 | 3 => 3 | 4 => 4 | 20 => 20 | 0 => 0 | 46 => 125 | 109 => 167 | 5 => 5 | 72 => 142 | 76 => 144 | 51 => 180 | 146 => 184 | 53 => 94 | 148 => 186 | 70 => 140 | 37 => 22 | 75 => 113 | 127 => 171 | 164 => 188 | 80 => 146 | n => n, fun | n => n⟩
theorem Tryz.lays105 : Go.Proofs.Lays.n105 Tryz.prog Tryz.lays105_ren := {
  mixed := by kernel_rfl
  f99 := Tryz.func114.trans (congrArg some (by kernel_rfl))
  f105 := Tryz.func88.trans (congrArg some (by kernel_rfl))
  f165 := Tryz.func89.trans (congrArg some (by kernel_rfl))
  f166 := Tryz.func90.trans (congrArg some (by kernel_rfl))
  f169 := Tryz.func91.trans (congrArg some (by kernel_rfl))
  f170 := Tryz.func115.trans (congrArg some (by kernel_rfl))
  f206 := Tryz.func138.trans (congrArg some (by kernel_rfl))
  f212 := Tryz.func113.trans (congrArg some (by kernel_rfl))
  f240 := Tryz.func116.trans (congrArg some (by kernel_rfl))
  f241 := Tryz.func117.trans (congrArg some (by kernel_rfl))
  f263 := Tryz.func136.trans (congrArg some (by kernel_rfl))
  f264 := Tryz.func137.trans (congrArg some (by kernel_rfl))
  f276 := Tryz.func139.trans (congrArg some (by kernel_rfl))
  f277 := Tryz.func140.trans (congrArg some (by kernel_rfl))
  t0 := Tryz.underlying0
  a0 := Tryz.isAgg0
  z0 := Tryz.sizeOf0
  v0 := Tryz.zeroValue0
  t3 := Tryz.underlying3
  a3 := Tryz.isAgg3
  z3 := Tryz.sizeOf3
  v3 := Tryz.zeroValue3
  t4 := Tryz.underlying4
  a4 := Tryz.isAgg4
  z4 := Tryz.sizeOf4
  v4 := Tryz.zeroValue4
  t5 := Tryz.underlying5
  a5 := Tryz.isAgg5
  z5 := Tryz.sizeOf5
  v5 := Tryz.zeroValue5
  t9 := Tryz.underlying9
  a9 := Tryz.isAgg9
  z9 := Tryz.sizeOf9
  v9 := Tryz.zeroValue9
  t20 := Tryz.underlying20
  a20 := Tryz.isAgg20
  z20 := Tryz.sizeOf20
  v20 := Tryz.zeroValue20
  t37 := Tryz.underlying22
  a37 := Tryz.isAgg22
  z37 := Tryz.sizeOf22
  v37 := Tryz.zeroValue22
  t46 := Tryz.underlying125
  a46 := Tryz.isAgg125
  z46 := Tryz.sizeOf125
  v46 := Tryz.zeroValue125
  t51 := Tryz.underlying180
  a51 := Tryz.isAgg180
  z51 := Tryz.sizeOf180
  v51 := Tryz.zeroValue180
  t53 := Tryz.underlying94
  a53 := Tryz.isAgg94
  z53 := Tryz.sizeOf94
  v53 := Tryz.zeroValue94
  t70 := Tryz.underlying140
  a70 := Tryz.isAgg140
  z70 := Tryz.sizeOf140
  v70 := Tryz.zeroValue140
  t72 := Tryz.underlying142
  a72 := Tryz.isAgg142
  z72 := Tryz.sizeOf142
  v72 := Tryz.zeroValue142
  t75 := Tryz.underlying113
  a75 := Tryz.isAgg113
  z75 := Tryz.sizeOf113
  v75 := Tryz.zeroValue113
  t76 := Tryz.underlying144
  a76 := Tryz.isAgg144
  z76 := Tryz.sizeOf144
  v76 := Tryz.zeroValue144
  t109 := Tryz.underlying167
  a109 := Tryz.isAgg167
  z109 := Tryz.sizeOf167
  v109 := Tryz.zeroValue167
  t127 := Tryz.underlying171
  a127 := Tryz.isAgg171
  z127 := Tryz.sizeOf171
  v127 := Tryz.zeroValue171
  t146 := Tryz.underlying184
  a146 := Tryz.isAgg184
  z146 := Tryz.sizeOf184
  v146 := Tryz.zeroValue184
  t148 := Tryz.underlying186
  a148 := Tryz.isAgg186
  z148 := Tryz.sizeOf186
  v148 := Tryz.zeroValue186
  t164 := Tryz.underlying188
  a164 := Tryz.isAgg188
  z164 := Tryz.sizeOf188
  v164 := Tryz.zeroValue188 }
open Go.RowKit Go.Lib in
theorem Tryz.strings_Repeat_zero (s : ByteArray) (w : World) :
    Calls Tryz.prog 88 #[.string s, .int .i64 0] w fun e w' => e = .returned (.string ⟨#[]⟩) ∧ w' = w := Any.strings_Repeat_zero Tryz.lays105 s w
open Go.RowKit Go.Lib in
theorem Tryz.strings_Repeat_one (s : ByteArray) (w : World) :
    Calls Tryz.prog 88 #[.string s, .int .i64 1] w fun e w' => e = .returned (.string s) ∧ w' = w := Any.strings_Repeat_one Tryz.lays105 s w
end Go.Proofs

/- What these functions of the program hand back, each proved by walking its operations. -/
set_option linter.unusedVariables false
set_option linter.unusedSimpArgs false
set_option maxRecDepth 4000
namespace Go.Proofs.YtiibhahhjkaodaaGreatDoor
open Go Go.Sx Go.RowKit Go.W Go.Proofs
attribute [local irreducible] Ex ExL ExD Op1 Free RetQ MutQ Reads CellO SegO LoadsAs
theorem e_31 : Enters Tryz.prog 31 := Enters.of Tryz.func31 rfl
theorem c_Split (t : List UInt8) (c : UInt8) (hl : t.length ≤ 1048576) : Ret Tryz.prog 31 [sv t, sv [c]] (fun w => RdO 0 1 2 w) (fun x : Nat => .slice (some ⟨x, 0, none⟩) (splitA c [] t).length (splitA c [] t).length) (fun x => [.row (.slice (some ⟨x, 0, none⟩) (splitA c [] t).length (splitA c [] t).length) 9 1 (splitA c [] t).length ((splitA c [] t).flatMap eSt)]) (fun _ => True) := by
  refine ⟨e_31, fun w hr => ?_⟩
  obtain ⟨m, hm⟩ := hr.max
  have hz : (mkB t).size = t.length := rfl
  refine (Go.Proofs.Tryz.strings_Split (mkB t) (mkB [c]) m w (by omega) hm (by show 1 ≤ 1; decide)).mono ?_
  rintro e w' ⟨rfl, rfl⟩
  obtain ⟨h1, h2⟩ := split_row (T := 9) (w := w) c t (by omega)
  exact ⟨w.heap.size, trivial, congrArg _ h1, below_alloc _ _, by simpa using h2, by simp⟩
theorem e_60 : Enters Tryz.prog 60 := Enters.of Tryz.func60 rfl
theorem c_ParseInt (t : List UInt8) (hl : t.length ≤ 1048576) : Ret Tryz.prog 60 [sv t, .int .i64 10, .int .i64 64] (fun w => RdO 0 1 2 w) (fun x : Int × Bool × TypeId × Value => .tuple #[.int .i64 x.1, errV x.2.1 x.2.2.1 x.2.2.2]) (fun _ => []) (fun x => PInt t x.1 x.2.1) := by
  refine ⟨e_60, fun w hr => ?_⟩
  have hz : (mkB t).size = t.length := rfl
  cases h : Lib.parseIntB 64 t with
  | ok v =>
    refine (Go.Proofs.Tryz.strconv_ParseInt_10_at64_ok (mkB t) (by omega) v h w).mono ?_
    rintro e w' ⟨rfl, hw⟩
    refine ⟨(v, true, 0, .nilIface), pint_ok h, rfl, ?_, by simp, List.Pairwise.nil⟩
    rcases hw with rfl | ⟨u, rfl⟩
    · exact Below.refl _ _
    · exact Lib.bytesWorld_below _ _ _
  | range =>
    obtain ⟨ev, hv, hev⟩ := hr.rng
    refine (Go.Proofs.Tryz.strconv_ParseInt_10_at64_range (mkB t) (by omega) h ev w hv hev).mono ?_
    rintro e w' ⟨N, rfl, _, _, hb⟩
    exact ⟨(Lib.intSat 64 t, false, _, _), pint_rng h, rfl, hb, by simp, List.Pairwise.nil⟩
  | _ =>
    obtain ⟨ev, hv, hev⟩ := hr.syn
    refine (Go.Proofs.Tryz.strconv_ParseInt_10_at64_syntax (mkB t) (by omega) h ev w hv hev).mono ?_
    rintro e w' ⟨N, rfl, _, _, hb⟩
    exact ⟨(0, false, _, _), pint_syn (fun z e => by rw [h] at e; cases e), rfl, hb, by simp, List.Pairwise.nil⟩
end Go.Proofs.YtiibhahhjkaodaaGreatDoor

/- What these functions of the program hand back, each proved by walking its operations. -/
set_option linter.unusedVariables false
set_option linter.unusedSimpArgs false
set_option maxRecDepth 4000
namespace Go.Proofs.YtiibhahhjkaodaaGreatDoor
open Go Go.Sx Go.RowKit Go.W Go.Proofs
attribute [local irreducible] Ex ExL ExD Op1 Free RetQ MutQ Reads CellO SegO LoadsAs
theorem e_61 : Enters Tryz.prog 61 := Enters.of Tryz.func61 rfl
theorem c_ParseUint (t : List UInt8) (hl : t.length ≤ 1048576) : Ret Tryz.prog 61 [sv t, .int .i64 10, .int .i64 7] (fun w => RdO 0 1 2 w) (fun x : Int × Bool × TypeId × Value => .tuple #[.int .u64 x.1, errV x.2.1 x.2.2.1 x.2.2.2]) (fun _ => []) (fun x => PUint t x.1 x.2.1) := by
  refine ⟨e_61, fun w hr => ?_⟩
  have hz : (mkB t).size = t.length := rfl
  cases h : Lib.parseUintB 7 t with
  | ok u =>
    refine (Go.U7.u7_ok Go.Proofs.Tryz.laysPu14 (mkB t) (by omega) u h w).mono ?_
    rintro e w' ⟨rfl, hw⟩
    refine ⟨((u : Int), true, 0, .nilIface), puint_ok h, rfl, ?_, by simp, List.Pairwise.nil⟩
    rcases hw with rfl | rfl
    · exact Below.refl _ _
    · exact Lib.bytesWorld_below _ _ _
  | range =>
    obtain ⟨ev, hv, hev⟩ := hr.rng
    refine (Go.U7.u7_rng Go.Proofs.Tryz.laysPu14 (mkB t) (by omega) h ev w hv hev).mono ?_
    rintro e w' ⟨N, rfl, _, _, hb⟩
    exact ⟨(127, false, _, _), puint_no ⟨by simp, by simp⟩ (fun z e => by rw [h] at e; cases e), rfl, hb, by simp, List.Pairwise.nil⟩
  | _ =>
    obtain ⟨ev, hv, hev⟩ := hr.syn
    refine (Go.U7.u7_syn Go.Proofs.Tryz.laysPu14 (mkB t) (by omega) h ev w hv hev).mono ?_
    rintro e w' ⟨N, rfl, _, _, hb⟩
    exact ⟨(0, false, _, _), puint_no ⟨by simp, by simp⟩ (fun z e => by rw [h] at e; cases e), rfl, hb, by simp, List.Pairwise.nil⟩
end Go.Proofs.YtiibhahhjkaodaaGreatDoor
