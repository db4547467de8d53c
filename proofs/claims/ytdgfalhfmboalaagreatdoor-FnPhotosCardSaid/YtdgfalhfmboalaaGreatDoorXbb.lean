/- Several texts, one behind the other. -/
import Derived.Test.YtdgfalhfmboalaaGreatDoorProg
import Derived.Shelf.Strings.Builder1
import Derived.Shelf.Strings.Builder2
import Derived.Shelf.Strings.OnBuilder
import Derived.Shelf.Strings.BuilderF
import Derived.Shelf.Strconv.Itoa0
import Derived.Shelf.Strconv.Itoa1
import Derived.Shelf.LaysM
import Derived.Shelf.Strconv.Itoa2
import Derived.Shelf.Strconv.Itoa3
import Derived.Shelf.Strconv.Clone
import Derived.Shelf.Strconv.SyntaxError
import Derived.Shelf.LaysC
import Derived.Shelf.Strconv.ToError
import Derived.Shelf.Strconv.Lower
import Derived.Shelf.Strconv.ParseUint10
import Derived.Shelf.Strconv.ParseUint10Empty
import Derived.Shelf.Strconv.ParseUint10Any
import Derived.Shelf.Strconv.RangeError
import Derived.Shelf.Strconv.ToErrorRange
import Derived.Shelf.Strconv.ParseUintEmpty
import Derived.Shelf.Strconv.ParseUint10b64
import Derived.Shelf.Strconv.ParseUint10b32
import Derived.Shelf.Strconv.ParseUint10b16
import Derived.Shelf.Strconv.ParseUint10b8
import Derived.Shelf.Strconv.ParseUint10At
import Derived.Ground.MpProg
import Derived.Shelf.Pu.ParseUintPublic10
import Derived.Shelf.Strings.Search1
import Derived.Shelf.Strings.Search2
import Derived.Shelf.Strings.Search3
import Derived.Shelf.Strings.Count
import Derived.Shelf.Strings.Shaped
import Derived.Shelf.Strings.Split
import Derived.Shelf.Unicode.DecodeSlow
import Derived.Test.YtdgfalhfmboalaaGreatDoorXaa
import Derived.Test.YtdgfalhfmboalaaGreatDoorXab
import Derived.Test.YtdgfalhfmboalaaGreatDoorXba
/- What these functions of the program hand back, each proved by walking its operations. -/
set_option linter.unusedVariables false
set_option linter.unusedSimpArgs false
set_option maxRecDepth 4000
namespace Go.Proofs.YtdgfalhfmboalaaGreatDoor
open Go Go.Sx Go.RowKit Go.W Go.Proofs
attribute [local irreducible] Ex ExL ExD Op1 Free RetQ MutQ Reads CellO SegO LoadsAs
theorem c_showsW (s : List Int) (As : Option Addr) (cs : Nat) (hs8 : s.length ≤ 8) (p : VPh) (hp : OkPh p) (a : Dig) (hDa : ∀ i, i < s.length → 0 ≤ a.l.getD i 0 ∧ a.l.getD i 0 ≤ 127) : Ret Tryz.prog 50 [.slice As s.length cs, .agg (encPh p).toArray, .agg (encD a).toArray] (fun w => Rd w As (s.flatMap (eI .u8))) (fun x : Unit => .bool (showsM s p.l a.l)) (fun x => []) (fun x => True) := by
  refine Ret.of e_50 Tryz.func50 rfl Tryz.ntmps50 rfl rfl (fun w hpre => ?_)
  have hs := hpre.base
  have hm0 : maxLen = 9223372036854775807 := rfl
  refine Ex.regSeq (ExL.pures 0 rfl ?_)
  refine ExL.op rfl (op_box rfl rfl rfl rfl rfl (fun b1 => ?_))
  refine ExL.op rfl (op_box rfl rfl rfl rfl rfl (fun b2 => ?_))
  refine ExL.pures 1 rfl ?_
  refine ExL.nil ?_
  refine Ex.seq ?_
  refine Ex.regSeq (ExL.pures 3 rfl ?_)
  refine ExL.nil ?_
  refine Ex.block ?_
  refine Ex.loopK (X := Nat) (fun k => [(10, .int .i64 k)]) (fun k => []) (fun k => k ≤ s.length ∧ ∀ i, i < k → hasM (p.l.getD i zMk) (a.l.getD i 0).toNat = true) (fun k => s.length - k) 0 [(4, _), (5, _), (9, _)] [_, _] 2 [0, 1] ⟨rfl, trivial⟩ ⟨rfl, rfl, rfl, trivial⟩ (rfl) rfl ⟨Nat.zero_le _, fun i hi => by omega⟩ (fun k hI => ?_)
  have hI : k ≤ s.length ∧ ∀ i, i < k → hasM (p.l.getD i zMk) (a.l.getD i 0).toNat = true := hI
  obtain ⟨hk, hall⟩ := hI
  refine Ex.regSeq (ExL.pures 0 rfl ?_)
  refine ExL.lss rfl rfl rfl rfl rfl rfl (fun h3 => ?_) (fun h3 => ?_)
  · refine ExL.nil ?_
    refine Ex.seq ?_
    refine Ex.cond_t rfl ?_
    refine Ex.skip ?_
    refine Ex.seq ?_
    refine Ex.block ?_
    have hkl : k < s.length := by omega
    have hdk := hDa k hkl
    refine Ex.regSeq (ExL.pures 2 rfl ?_)
    refine ExL.nil ?_
    refine Ex.drawSeqM rfl ?_
    refine ExD.take (i := 0) rfl (by kernel_rfl) (pureVal_ok rfl) ((List.Sublist.refl _)) rfl rfl rfl ?_
    refine ExD.take (i := 1) rfl (by kernel_rfl) (fr_indexAddr_b (sz := 2) rfl rfl rfl rfl rfl (by omega)) ((List.Sublist.refl _)) rfl rfl rfl ?_
    refine ExD.take (i := 2) rfl (by kernel_rfl) (fr_loadN rfl rfl rfl rfl rfl (segB (i := 1) rfl encMk_len zMk (by rw [ph_len]; omega))) ((List.Sublist.refl _)) rfl rfl rfl ?_
    refine ExD.take (i := 3) rfl (by kernel_rfl) (pureVal_ok rfl) ((List.Sublist.refl _)) rfl rfl rfl ?_
    refine ExD.take (i := 4) rfl (by kernel_rfl) (fr_indexAddr_b (sz := 1) rfl rfl rfl rfl rfl (by omega)) ((List.Sublist.refl _)) rfl rfl rfl ?_
    refine ExD.take (i := 5) rfl (by kernel_rfl) (fr_load rfl rfl rfl rfl (CellO.blk (i := 0) rfl (blkG (eI_len .u8) 0 rfl (by rw [dig_len]; omega) rfl))) ((List.Sublist.refl _)) rfl rfl rfl ?_
    refine ExD.take (i := 6) rfl (by kernel_rfl) (by first | exact fr_conv64 rfl rfl rfl rfl (by omega) | exact fr_conv rfl rfl rfl rfl) ((List.Sublist.refl _)) rfl rfl rfl ?_
    refine ExD.op (i := 7) rfl (by kernel_rfl) rfl (op_ret rfl rfl rfl (c_has (p.l.getD k zMk) (hp k (by omega)) (a.l.getD k 0) (by omega)) (fun _ _ => trivial) rfl rfl (fun x4 hx4 => ⟨(List.Sublist.refl _), ?_⟩))
    refine ExD.take (i := 8) rfl (by kernel_rfl) (pureVal_ok rfl) ((List.Sublist.refl _)) rfl rfl rfl ?_
    refine ExD.done (by kernel_rfl) ?_
    refine Ex.cond rfl (fun hb5 => ?_) (fun hb5 => ?_)
    · replace hb5 := nb_t hb5
      refine Ex.regSeq (ExL.pures 1 rfl ?_)
      refine ExL.nil ?_
      refine Ex.ret ?_
      refine RetQ.mk () rfl (.tmp rfl .nil) (tB (by first | exact sm_all (by omega) hall | exact sm_no (k := k) (by omega) (by assumption))) [] (rfl) rfl (trivial)
    · replace hb5 := nb_f hb5
      refine Ex.skip ?_
      refine Ex.region (ExL.pures 0 rfl ?_)
      refine ExL.free (by first | exact fr_add64 rfl rfl rfl (by omega) | exact fr_add rfl rfl rfl) rfl rfl rfl ?_
      refine ExL.pures 1 rfl ?_
      refine ExL.nil ?_
      refine Hand.mk (k + 1) 2 [0, 1] ⟨rfl, trivial⟩ ⟨rfl, rfl, rfl, trivial⟩ (rfl) rfl (⟨by omega, all_snoc hall (by assumption)⟩) (by omega)
  · refine ExL.nil ?_
    refine Ex.seq ?_
    refine Ex.cond_f rfl ?_
    refine Ex.exit ?_
    refine Ex.regSeq (ExL.pures 1 rfl ?_)
    refine ExL.nil ?_
    refine Ex.ret ?_
    refine RetQ.mk () rfl (.tmp rfl .nil) (tB (by first | exact sm_all (by omega) hall | exact sm_no (k := k) (by omega) (by assumption))) [] (rfl) rfl (trivial)
theorem e_62 : Enters Tryz.prog 62 := Enters.of Tryz.func62 rfl
theorem c_least (s : List Int) (hS : Stk s) (p : VPh) (hP : PhOk s p.l) (hp : OkPh p) (b q : Nat) (a : Dig) (n : Nat) (hn : n ≤ s.length) : Ret Tryz.prog 62 [.pointer (some ⟨b, q, none⟩), .agg (encD a).toArray, .int .i64 n] (fun w => Rd w (some ⟨b, q, none⟩) (encPh p)) (fun x : Unit => .agg (encD (dig (leastD p.l a.l n))).toArray) (fun x => []) (fun x => True) := by
  refine Ret.of e_62 Tryz.func62 rfl Tryz.ntmps62 rfl rfl (fun w hpre => ?_)
  have hpt := hpre.base
  have hpl := ph_len p
  have h8 := hS.len8
  have hm0 : maxLen = 9223372036854775807 := rfl
  refine Ex.regSeq (ExL.pures 0 rfl ?_)
  refine ExL.op rfl (op_box rfl rfl rfl rfl rfl (fun b1 => ?_))
  refine ExL.op rfl (op_alloc rfl rfl rfl rfl rfl (fun b2 => ?_))
  refine ExL.nil ?_
  refine Ex.seq ?_
  refine Ex.regSeq (ExL.pures 2 rfl ?_)
  refine ExL.nil ?_
  refine Ex.block ?_
  refine Ex.loopK (X := Nat) (fun k => [(9, .int .i64 k)]) (fun k => [.blk b1 ((leastD p.l a.l k).flatMap (eI .u8)) 34]) (fun k => k ≤ n) (fun k => n - k) 0 [(0, _), (4, _), (6, _), (8, _)] [_] 2 [1, 0] ⟨rfl, trivial⟩ ⟨rfl, rfl, rfl, rfl, trivial⟩ (pkB (by rw [leastD_0 (dig_len a)]; rfl)) rfl (Nat.zero_le _) (fun k hI => ?_)
  have hI : k ≤ n := hI
  refine Ex.regSeq (ExL.pures 0 rfl ?_)
  refine ExL.lss rfl rfl rfl rfl rfl rfl (fun h3 => ?_) (fun h3 => ?_)
  · refine ExL.nil ?_
    refine Ex.seq ?_
    refine Ex.cond_t rfl ?_
    refine Ex.skip ?_
    refine Ex.seq ?_
    refine Ex.block ?_
    have hk : k < s.length := by omega
    have hdf := dig_fst (hP.some_ k hk)
    have hfs := from_some (hP.some_ k hk)
    have hfb := from_bd (p.l.getD k zMk) 0
    refine Ex.regSeq (ExL.pures 2 rfl ?_)
    refine ExL.nil ?_
    refine Ex.region (ExL.pures 4 rfl ?_)
    refine ExL.free (fr_indexAddr_b (sz := 2) rfl rfl rfl rfl rfl (by omega)) rfl rfl rfl ?_
    refine ExL.free (fr_loadN rfl rfl rfl rfl rfl (segOld (Reads.old hpt) encMk_len zMk rfl (by rw [ph_len]; omega))) rfl rfl rfl ?_
    refine ExL.op rfl (op_ret rfl rfl rfl (c_digitsM (p.l.getD k zMk) (hp k (by omega))) (fun _ _ => trivial) rfl rfl (fun x4 hx4 => ?_))
    refine ExL.free (fr_indexAddrR (sz := 1) 0 rfl rfl rfl rfl rfl rfl (by omega)) rfl rfl rfl ?_
    refine ExL.free (fr_load rfl rfl rfl rfl (cellJ (i := 0) (0) (Reads.row (i := 0) rfl) (eI_len .i64) 0 0 rfl (by omega) (by omega) rfl)) rfl rfl rfl ?_
    refine ExL.free (by first | exact fr_conv_u8 rfl rfl rfl rfl (by omega) | exact fr_conv rfl rfl rfl rfl) rfl rfl rfl ?_
    refine ExL.free (fr_indexAddr_b (sz := 1) rfl rfl rfl rfl rfl (by omega)) rfl rfl rfl ?_
    refine ExL.op rfl (op_store (i := 1) rfl rfl rfl rfl rfl rfl rfl rfl (room (eI_len .u8) (k := k) (by rw [leastD_len]; omega) (by simp) rfl) rfl ?_)
    refine ExL.nil ?_
    refine Ex.region (ExL.pures 0 rfl ?_)
    refine ExL.free (by first | exact fr_add64 rfl rfl rfl (by omega) | exact fr_add rfl rfl rfl) rfl rfl rfl ?_
    refine ExL.pures 1 rfl ?_
    refine ExL.nil ?_
    refine Hand.mk (k + 1) 3 [1, 2] ⟨rfl, trivial⟩ ⟨rfl, rfl, rfl, rfl, trivial⟩ (pkB (leastD_put (by omega) (by simp) (congrArg (eI .u8) hdf.2))) rfl (by omega) (by omega)
  · refine ExL.nil ?_
    refine Ex.seq ?_
    refine Ex.cond_f rfl ?_
    refine Ex.exit ?_
    obtain rfl : k = n := (by omega)
    rw [← encD_dig (leastD_len _ _ _)]
    refine Ex.regSeq (ExL.pures 0 rfl ?_)
    refine ExL.free (fr_loadN rfl rfl rfl rfl rfl (SegO.whole (i := 0) rfl)) rfl rfl rfl ?_
    refine ExL.op rfl (op_storeC (i := 1) rfl rfl rfl rfl rfl rfl rfl rfl rfl rfl ?_)
    refine ExL.nil ?_
    refine Ex.ret ?_
    refine RetQ.mk () rfl (.cell rfl (.many rfl rfl rfl (SegO.whole (i := 1) rfl)) .nil) (rfl) [] (rfl) rfl (trivial)
end Go.Proofs.YtdgfalhfmboalaaGreatDoor

/- Stacks: a step down undoes a step up; complements; places. -/
set_option linter.unusedVariables false
set_option linter.unusedSimpArgs false
namespace Go.W
open Go Go.Sx
end Go.W

/- The text of a stack, and what is read of it. -/
set_option linter.unusedVariables false
set_option linter.unusedSimpArgs false
namespace Go.W
open Go Go.Sx
/-- Wheels of which some may be left out. -/
structure StkW (s : List Int) : Prop where
  len8 : s.length ≤ 8
  bases : Bases s
  le : prod s ≤ 1000000000000
theorem Stk.w {s : List Int} (h : Stk s) (k : Nat) : StkW (s.take k) := ⟨by have := h.len8; rw [List.length_take]; omega, h.bases.take k, by have h1 := prod_take_le h.bases k; have h2 := h.le; omega⟩
theorem DigOk.take {s l : List Int} (h : DigOk s l) (k : Nat) : DigOk (s.take k) l := fun i hi => by
  have hi' : i < k ∧ i < s.length := by rw [List.length_take] at hi; omega
  have := h i hi'.2
  rwa [show (s.take k).getD i 0 = s.getD i 0 by simp [List.getD, List.getElem?_take, hi'.1]]
end Go.W

/- A range over a function whose rounds turn what is held in a way that is told by what is known of it. -/
set_option linter.unusedVariables false
set_option linter.unusedSimpArgs false
namespace Go.Sx
open Go Go.RowKit
variable {C : Cx} {env env' : Env} {m m' : List Ent} {Q Q' : Post} {l rest : List Oper} {o : Oper} {K : Env → List Ent → Prop}
def TabB (P : Program) (base : Nat) (w : World) : Prop := TabO P w ∧ ∀ g, P.globalNamed "internal/strconv.uint64pow10" = some g → g < base
theorem TabO.base {P w} (h : TabO P w) : TabB P w.heap.size w := ⟨h, fun g hg => by
  unfold TabO Lib.TabIs World.var? at h
  simp only [hg, Option.bind_some] at h
  rcases Nat.lt_or_ge g w.heap.size with h1 | h1
  · exact h1
  · rw [Array.getElem?_eq_none h1] at h; simp at h⟩
theorem TabB.keep {P base w w'} (h : TabB P base w) (hb : Below base w w') : TabB P base w' := ⟨by
  have h2 := h.2
  have h := h.1
  unfold TabO Lib.TabIs World.var? at h ⊢
  cases hg : P.globalNamed "internal/strconv.uint64pow10" with
  | none => simp [hg] at h
  | some g =>
    simp only [hg, Option.bind_some] at h ⊢
    rw [hb.block g (h2 g hg)]
    exact h, h.2⟩
theorem TabB.get {P base w0 m w} (h : TabB P base w0) (hh : Holds base w0 m w) : TabO P w := (h.keep hh.below).1
theorem ExL.yieldX {S : List Ent → Prop} {d lp : Nat} {fo args at_ vs} (ho : o.op = .call { callee := .value fo, args := args, argTypes := at_ }) (hfo : ev env fo = some (.func (.yield lp) #[] #[])) (hargs : evs env args.toList = some vs) (hg : wantB l env o = some true) (hd : o.dst = some d) (hlt : Nat.blt d C.n = true)
    (hy : ∀ w, Holds C.base C.w0 m w → YieldAt (fc none) 0 C.P lp vs.toArray w (fun e w' => e = .returned (.bool true) ∧ ∃ m', S m' ∧ Holds C.base C.w0 m' w'))
    (h : ∀ m', S m' → ExL C l rest ((d, .bool true) :: env) m' K) : ExL C l (o :: rest) env m K := by
  unfold ExL at h ⊢
  intro a w hr hh
  have hw := wantB_ok hr hg
  unfold wl
  rw [if_pos hw]
  refine .inr ?_
  obtain ⟨f, tm, asg, bd, hyr, hR⟩ := hy w hh
  have e1 : args.map a.eval = vs.toArray := by rw [← hr.evs hargs]; simp [← Array.toList_inj]
  refine ⟨lp, f, tm, asg, bd, w, ?_, ?_⟩
  · simp [execOp, ho, resolve, hr.ev hfo, Deferred.ofValue, invoke, e1, hyr]
  · refine RoundIn.mono (F := fc C.rd) hR ?_
    rintro e w' ⟨rfl, m', hS, hh'⟩
    exact h m' hS _ _ (hr.put1 hd hlt) hh'
theorem pk3R {a b : Ent} {v : Value} {E sz n : Nat} {cs cs' : List Value} {r : List Ent} (h : cs = cs') : some (a :: b :: Ent.row v E sz n cs :: r) = some (a :: b :: .row v E sz n cs' :: r) := by rw [h]
def YieldsX (P : Program) (l base : Nat) (w0 : World) (box : Ent) (Sf : Nat → List Ent → Prop) (N : Nat) (encs : Nat → List Value) : Prop :=
  ∀ k W mk, k < N → Sf k mk → Holds base w0 (box :: mk) W → YieldAt (fc none) 0 P l (encs k).toArray W (fun e W' => e = .returned (.bool true) ∧ ∃ m', (∃ mk', Sf (k + 1) mk' ∧ m' = box :: mk') ∧ Holds base w0 m' W')
def IterX (P : Program) (gf : FuncId) (lb : List Value) (base : Nat) (w0 : World) (box : Ent) (N : Nat) (encs : Nat → List Value) : Prop :=
  Enters P gf ∧ ∀ (w1 : World) (l : Nat) (Sf : Nat → List Ent → Prop) (m0 : List Ent) (W : World), Below base w0 w1 → YieldsX P l base w1 box Sf N encs → Sf 0 m0 → Holds base w1 (box :: m0) W →
    Calls P gf (.func (.yield l) #[] #[] :: lb).toArray W fun e W' => (∃ v, e = .returned v) ∧ ∃ mN, Sf N mN ∧ Holds base w1 (box :: mN) W'
theorem Ex.rangeFX {g : Operand} {ps : List Nat} {asg bd B : Code} {id gf N : Nat} {lb : List Value} {encs : Nat → List Value} {box : Ent} {Sf : Nat → List Ent → Prop} {m0 : List Ent} (t : Nat) (is : List Nat) (E1 : Nat → Env) (hrd : C.rd = none) (hds : C.ds = [])
    (hg : ev env g = some (.func (.func gf) #[] (List.toArray lb))) (hit : IterX C.P gf lb C.base C.w0 box N encs) (hps : ∀ k, (encs k).length = ps.length) (hpn : ps.all (fun p => Nat.blt p C.n) = true) (hM : pickT m t is = some (box :: m0)) (hf : freshT t is = true) (h0 : Sf 0 m0)
    (hasg : ∀ l k W mk, k < N → Sf k mk → Below C.base C.w0 W → Ex ⟨C.P, C.n, C.base, W, some l, []⟩ asg (zipR ps (encs k) env) (box :: mk) (fun e env' m' => e = .normal ∧ Agree (E1 k) env' ∧ m' = box :: mk))
    (hbd : ∀ l k W mk, k < N → Sf k mk → Below C.base C.w0 W → Ex ⟨C.P, C.n, C.base, W, some l, []⟩ bd (E1 k) (box :: mk) (fun e env' m' => e = .normal ∧ ∃ t is mk', Sf (k + 1) mk' ∧ pickT m' t is = some (box :: mk') ∧ freshT t is = true))
    (hB : ∀ D W mk, Sf N mk → Below C.base C.w0 W → Ex ⟨C.P, C.n, C.base, W, none, [mark D]⟩ B env (box :: mk) (fun e env' m' => e = .ret ∧ Q e env' m')) :
    ExT C (.block id (.rangeFunc g ps.toArray asg bd)) B env m Q := by
  obtain ⟨P, n, base, w0, rd, ds⟩ := C
  simp only at hrd hds hit hasg hbd hB hpn
  subst hrd hds
  unfold Ex at hasg hbd hB
  intro a w hr hh
  simp only at hr hh
  refine wpIn_block (wpIn_rangeFunc ?_)
  intro fn _
  obtain ⟨rec, hrec⟩ : ∃ rec : LoopState → Option Code → Loop, rec = fun st pe => { state := st, pending := pe, fn, tmps := a.tmps, params := ps.toArray, assign := asg, body := bd, defers := w.heap.size } := ⟨_, rfl⟩
  obtain ⟨W1, hW1⟩ : ∃ W1, (w.alloc (.deferred (some []))).alloc (.loop (rec .ready none)) = W1 := ⟨_, rfl⟩
  have hL1 : W1.heap[w.heap.size + 1]? = some (.loop (rec .ready none)) := by
    rw [← hW1]; have := World.alloc_heap_new (w.alloc (.deferred (some []))) (.loop (rec .ready none)); rwa [World.size_alloc] at this
  have hK1 : W1.heap[w.heap.size]? = some (.deferred (some [])) := by
    rw [← hW1]; exact (Below.heap_alloc _ _ _ (by simp)).trans (World.alloc_heap_new w _)
  have hg1 : w.grownBy W1 none := by rw [← hW1]; exact grown_of_below (((below_alloc' w _).trans ((below_alloc' _ _).mono (by simp)))) none
  have hb1 : Below base w W1 := by rw [← hW1]; exact (((below_alloc' w _).trans ((below_alloc' _ _).mono (by simp)))).mono hh.wle
  have hB1 : Below base w0 W1 := hh.below.trans hb1
  have hH1 : Holds base W1 (box :: m0) W1 := (hh.pickT hM hf).fresh hg1
  have ho1 : KeepsOthers w W1 := KeepsOthers.of_grownBy hg1 (fun _ _ e => nomatch e)
  have hsz : w.heap.size + 1 < W1.heap.size := (Array.getElem?_eq_some_iff.1 hL1).1
  have hwle := hh.wle
  refine ⟨w.heap.size + 1, [mark w.heap.size], W1, { target := .fn (.func gf) lb.toArray, args := #[.func (.yield (w.heap.size + 1)) #[] #[]] }, W1, gf,
    #[.func (.yield (w.heap.size + 1)) #[] #[]] ++ lb.toArray, W1, ?_, ?_, fun _ _ => trivial, ?_, noDepth, ?_⟩
  · rw [← hW1, hrec]; exact run_enterLoop_outer _ _ _ _ _
  · simp only [resolve, hr.ev hg]
    simp [go_sem]
  · simp [invoke, go_sem, hit.1 _]
  · refine callsFc _ _ ?_
    have hcall := hit.2 W1 (w.heap.size + 1) Sf m0 W1 hB1 ?_ h0 hH1
    · rw [show #[Value.func (.yield (w.heap.size + 1)) #[] #[]] ++ lb.toArray = (Value.func (.yield (w.heap.size + 1)) #[] #[] :: lb).toArray by simp]
      refine hcall.mono ?_
      rintro e W2 ⟨⟨v, rfl⟩, mN, hSN, hH2⟩
      have hl2 : W2.heap[w.heap.size + 1]? = some (.loop (rec .ready none)) := hH2.others.same _ _ hL1 rfl
      have hk2 : W2.heap[w.heap.size]? = some (.deferred (some [])) := hH2.others.same _ _ hK1 rfl
      have hend := run_endLoop (P := P) hl2 (by rw [hrec]; simp)
      have hp0 : (rec .ready none).pending = none := by rw [hrec]
      refine ⟨none, _, hend.trans (congrArg (fun p => Result.ok p _) hp0), ?_⟩
      have hk3 : (W2.putObj (w.heap.size + 1) (.loop { rec .ready none with state := .exhausted })).heap[w.heap.size]? = some (.deferred (some [])) := (World.putObj_heap_other (by omega)).trans hk2
      have hb3 : Below base W2 (W2.putObj (w.heap.size + 1) (.loop { rec .ready none with state := .exhausted })) := below_put _ hH2.wle (by omega)
      have hr3 : Rep n [mark w.heap.size] env { a with defers := [mark w.heap.size] ++ a.defers } := ⟨by rw [hr.def0]; rfl, hr.size, hr.at_⟩
      have h3 := hB w.heap.size _ mN hSN (hB1.trans (hH2.below.trans hb3)) _ _ hr3 (hH2.freshPut hl2 rfl)
      refine wpIn_mono h3 ?_
      rintro e a4 W4 ⟨ho, env4, m4, ds4, hr4, hh4, ⟨rfl, hq⟩, hd4⟩
      have hd5 : ds4 = [mark w.heap.size] := by
        rcases hd4 with h | ⟨_, h, _⟩
        · exact h
        · cases h
      refine ⟨rfl, env4, m4, ds4, hr4, ⟨(hB1.trans (hH2.below.trans hb3)).trans hh4.below, hh.le, hh4.all, hh4.apart, ?_⟩, hq, .inr ⟨rfl, rfl, _, hd5, hh.below.size, hh4.others.same _ _ hk3 rfl⟩⟩
      refine KeepsOthers.trans ⟨?_, fun k o hk ho => ?_⟩ hh4.others
      · have h1 := hh.below.size; have h2 := hH2.below.size; simp; omega
      · have hk0 : k < w0.heap.size := (Array.getElem?_eq_some_iff.1 hk).1
        have h1 := hh.below.size
        exact (World.putObj_heap_other (by omega)).trans (hH2.others.same _ _ (ho1.same _ _ (hh.others.same _ _ hk ho) ho) ho)
    · intro k W mk hk hS hH
      have hl : W.heap[w.heap.size + 1]? = some (.loop (rec .ready none)) := hH.others.same _ _ hL1 rfl
      have hy := run_yield (P := P) (args := (encs k).toArray) hl (by rw [hrec]; simp [hps k])
      rw [hrec] at hy
      refine ⟨fn, _, asg, bd, hy, roundIn_of_wpIn trivial ?_⟩
      have hBW := hB1.trans hH.below
      have hrz : Rep n [] (zipR ps (encs k) env) { tmps := (ps.toArray.zip (encs k).toArray).foldl (fun tmps (t, a) => tmps.setIfInBounds t a) a.tmps, defers := [] } := by
        have := rep_zip (vs := encs k) (env := env) (tm := a.tmps) (ds := []) hpn ⟨rfl, hr.size, hr.at_⟩
        simpa using this
      have h1 := hasg (w.heap.size + 1) k W mk hk hS hBW _ W hrz hH.fresh0
      refine wpIn_mono h1 ?_
      rintro e a1 Wa ⟨_, env1, m1, ds1, hr1, hh1, ⟨rfl, hA, rfl⟩, hd1⟩
      have hds1 : ds1 = [] := hd1.same (fun e => nomatch e)
      subst hds1
      have hla : Wa.heap[w.heap.size + 1]? = some (.loop (rec .ready none)) := hh1.others.same _ _ hl rfl
      have hlt : w.heap.size + 1 < Wa.heap.size := (Array.getElem?_eq_some_iff.1 hla).1
      refine ⟨_, run_beginRound hla (by rw [hrec]), ?_⟩
      have hbb : Below base Wa (Wa.putObj (w.heap.size + 1) (.loop { rec .ready none with state := .busy })) := below_put _ hh1.wle (by omega)
      have h2 := hbd (w.heap.size + 1) k _ mk hk hS ((hBW.trans hh1.below).trans hbb) a1 _ (hr1.agree hA) (hh1.freshPut hla rfl)
      refine wpIn_mono h2 ?_
      rintro e a2 Wc ⟨_, env2, m2, ds2, hr2, hh2, ⟨rfl, t2, is2, mk', hS', hp2, hf2⟩, hd2⟩
      have hlc : Wc.heap[w.heap.size + 1]? = some (.loop { rec .ready none with state := .busy }) := hh2.others.same _ _ (World.putObj_heap_same hlt) rfl
      have her := run_endRound (P := P) none hlc
      refine ⟨_, _, her, rfl, _, ⟨mk', hS', rfl⟩, ?_⟩
      have hpk := hh2.pickT hp2 hf2
      have hbc : Below base Wc (Wc.putObj (w.heap.size + 1) (.loop { { rec .ready none with state := .busy } with state := if (none : Option Code).isNone then .ready else .done, pending := none })) := below_put _ hh2.wle (by omega)
      refine ⟨(((hH.below.trans hh1.below).trans hbb).trans hh2.below).trans hbc, hH.le, fun e he => (hpk.all e he).put hlc rfl rfl, hpk.apart, ⟨?_, fun j o hj ho => ?_⟩⟩
      · have h1 := hH.below.size
        have h2 : W.heap.size ≤ Wa.heap.size := hh1.below.size
        have h3 : (Wa.putObj (w.heap.size + 1) (.loop { rec .ready none with state := .busy })).heap.size ≤ Wc.heap.size := hh2.below.size
        rw [World.putObj_size] at h3 ⊢
        omega
      · by_cases hj2 : j = w.heap.size + 1
        · subst hj2
          rw [hL1] at hj
          cases hj
          have := World.putObj_heap_same (w := Wc) (o := .loop { { rec .ready none with state := .busy } with state := if (none : Option Code).isNone then .ready else .done, pending := none }) (Array.getElem?_eq_some_iff.1 hlc).1
          rw [this, hrec]; rfl
        · exact (World.putObj_heap_other hj2).trans (hh2.others.same _ _ ((World.putObj_heap_other hj2).trans (hh1.others.same _ _ (hH.others.same _ _ hj ho) ho)) ho)
/-- The same as it is met: what a round sees (V), what stays (Kp, Mk), what it turns (M), what is known of it (I). -/
theorem Ex.rangeKX {X : Type} {g : Operand} {ps : List Nat} {asg bd B : Code} {id gf N : Nat} {lb : List Value} {encs : Nat → List Value} {box : Ent} (V : Nat → Env) (M : Nat → X → List Ent) (I : Nat → X → Prop) (x0 : X) (Kp : Env) (Mk : List Ent) (t : Nat) (is : List Nat)
    (hg : ev env g = some (.func (.func gf) #[] (List.toArray lb))) (hit : IterX C.P gf lb C.base C.w0 box N encs) (hps : ∀ k, (encs k).length = ps.length) (hrd : C.rd = none) (hds : C.ds = []) (hpn : ps.all (fun p => Nat.blt p C.n) = true) (hM : pickT m t is = some (box :: (M 0 x0 ++ Mk))) (hf : freshT t is = true) (h0 : I 0 x0) (hK : Agree Kp env)
    (hasg : ∀ l k W x, k < N → I k x → Below C.base C.w0 W → Ex ⟨C.P, C.n, C.base, W, some l, []⟩ asg (zipR ps (encs k) env) (box :: (M k x ++ Mk)) (fun e env' m' => e = .normal ∧ Agree (V k ++ Kp) env' ∧ m' = box :: (M k x ++ Mk)))
    (hbd : ∀ l k W x, k < N → I k x → Below C.base C.w0 W → Ex ⟨C.P, C.n, C.base, W, some l, []⟩ bd (V k ++ Kp) (box :: (M k x ++ Mk)) (fun e env' m' => e = .normal ∧ ∃ x' t is, I (k + 1) x' ∧ pickT m' t is = some (box :: (M (k + 1) x' ++ Mk)) ∧ freshT t is = true))
    (hB : ∀ D W x, I N x → Below C.base C.w0 W → Ex ⟨C.P, C.n, C.base, W, none, [mark D]⟩ B env (box :: (M N x ++ Mk)) (fun e env' m' => e = .ret ∧ Q e env' m')) :
    ExT C (.block id (.rangeFunc g ps.toArray asg bd)) B env m Q := by
  refine Ex.rangeFX (Sf := fun k mk => ∃ x, I k x ∧ mk = M k x ++ Mk) (m0 := M 0 x0 ++ Mk) t is (fun k => V k ++ Kp) hrd hds hg hit hps hpn hM hf ⟨x0, h0, rfl⟩ ?_ ?_ ?_
  · rintro l k W _ hk ⟨x, hx, rfl⟩ hW
    exact hasg l k W x hk hx hW
  · rintro l k W _ hk ⟨x, hx, rfl⟩ hW
    have h := hbd l k W x hk hx hW
    unfold Ex at h ⊢
    intro a w hr hh
    refine wpIn_mono (h a w hr hh) ?_
    rintro e a2 w2 ⟨ho, env2, m2, ds2, hr2, hh2, ⟨he, x', t2, is2, hI, hp, hf2⟩, hd2⟩
    exact ⟨ho, env2, m2, ds2, hr2, hh2, ⟨he, t2, is2, _, ⟨x', hI, rfl⟩, hp, hf2⟩, hd2⟩
  · rintro D W _ ⟨x, hx, rfl⟩ hW
    exact hB D W x hx hW
theorem IterX.of {P : Program} {gf fn c n} {lb : List Value} {base : Nat} {w0 : World} {box : Ent} {N : Nat} {encs : Nat → List Value} (hE : Enters P gf) (hf : P.funcs[gf]? = some fn) (hb : fn.body = some c) (hn : fn.ntmps = n) (hrs : fn.results = List.toArray []) (hv : Nat.ble (lb.length + 1) n = true)
    (h : ∀ w1 l Sf m0, Below base w0 w1 → YieldsX P l base w1 box Sf N encs → Sf 0 m0 → Ex ⟨P, n, base, w1, none, []⟩ c (argsAt 0 (.func (.yield l) #[] #[] :: lb)) (box :: m0) (fun e env m => isEnd e = true ∧ ∃ mN, Sf N mN ∧ m = box :: mN)) : IterX P gf lb base w0 box N encs := by
  refine ⟨hE, fun w1 l Sf m0 W hW hY h0 hH => fcCalls (rd := none) (n := 0) (callsIn_of_wp_marks hf hb trivial ?_)⟩
  subst hn
  refine wpIn_mono (h w1 l Sf m0 hW hY h0 _ W (rep_start (Nat.le_of_ble_eq_true (by simpa using hv))) hH) ?_
  rintro e a w' ⟨ho, env, m, ds, hr, hh, ⟨hend, mN, hSN, rfl⟩, hd⟩
  refine bodyOf (e := e) hd hr hh (by cases e <;> simp_all [isEnd]) (fun w'' hh => ?_)
  have hrun := run_results (fn := fn) (rs := []) (vs := []) hrs trivial hr hh
  exact ⟨_, hrun, ⟨_, rfl⟩, mN, hSN, hh⟩
end Go.Sx

/- A range over a function that walks a row which is made here: the row lies among what is held. -/
set_option linter.unusedVariables false
set_option linter.unusedSimpArgs false
namespace Go.Sx
open Go Go.RowKit
variable {C : Cx} {env env' : Env} {m m' : List Ent} {Q Q' : Post} {l rest : List Oper} {o : Oper} {K : Env → List Ent → Prop}
def IterXR (P : Program) (gf : FuncId) (lb : List Value) (base : Nat) (w0 : World) (box : Ent) (j : Nat) (row : Ent) (N : Nat) (encs : Nat → List Value) : Prop :=
  Enters P gf ∧ ∀ (w1 : World) (l : Nat) (Sf : Nat → List Ent → Prop) (m0 : List Ent) (W : World), (∀ k mk, Sf k mk → mk[j]? = some row) → Below base w0 w1 → YieldsX P l base w1 box Sf N encs → Sf 0 m0 → Holds base w1 (box :: m0) W →
    Calls P gf (.func (.yield l) #[] #[] :: lb).toArray W fun e W' => (∃ v, e = .returned v) ∧ ∃ mN, Sf N mN ∧ Holds base w1 (box :: mN) W'
theorem IterXR.of {j : Nat} {row : Ent} {P : Program} {gf fn c n} {lb : List Value} {base : Nat} {w0 : World} {box : Ent} {N : Nat} {encs : Nat → List Value} (hE : Enters P gf) (hf : P.funcs[gf]? = some fn) (hb : fn.body = some c) (hn : fn.ntmps = n) (hrs : fn.results = List.toArray []) (hv : Nat.ble (lb.length + 1) n = true)
    (h : ∀ w1 l Sf m0, (∀ k mk, Sf k mk → mk[j]? = some row) → Below base w0 w1 → YieldsX P l base w1 box Sf N encs → Sf 0 m0 → Ex ⟨P, n, base, w1, none, []⟩ c (argsAt 0 (.func (.yield l) #[] #[] :: lb)) (box :: m0) (fun e env m => isEnd e = true ∧ ∃ mN, Sf N mN ∧ m = box :: mN)) : IterXR P gf lb base w0 box j row N encs := by
  refine ⟨hE, fun w1 l Sf m0 W hR hW hY h0 hH => fcCalls (rd := none) (n := 0) (callsIn_of_wp_marks hf hb trivial ?_)⟩
  subst hn
  refine wpIn_mono (h w1 l Sf m0 hR hW hY h0 _ W (rep_start (Nat.le_of_ble_eq_true (by simpa using hv))) hH) ?_
  rintro e a w' ⟨ho, env, m, ds, hr, hh, ⟨hend, mN, hSN, rfl⟩, hd⟩
  refine bodyOf (e := e) hd hr hh (by cases e <;> simp_all [isEnd]) (fun w'' hh => ?_)
  have hrun := run_results (fn := fn) (rs := []) (vs := []) hrs trivial hr hh
  exact ⟨_, hrun, ⟨_, rfl⟩, mN, hSN, hh⟩
end Go.Sx
namespace Go.Sx
open Go Go.RowKit
end Go.Sx
namespace Go.Sx
open Go Go.RowKit
/-- The library's variables lie, and below a bound. -/
structure RdBs (a b c base : Nat) (w : World) : Prop where
  rd : RdO a b c w
  la : a < base
  lb : b < base
  lc : c < base
theorem RdO.base {a b c w} (h : RdO a b c w) : RdBs a b c w.heap.size w := by
  refine ⟨h, ?_, ?_, ?_⟩
  · obtain ⟨_, h⟩ := h.max; exact World.block_lt_of_cell? _ ⟨a, 0, none⟩ h
  · obtain ⟨_, h, _⟩ := h.syn; exact World.block_lt_of_cell? _ ⟨b, 0, none⟩ h
  · obtain ⟨_, h, _⟩ := h.rng; exact World.block_lt_of_cell? _ ⟨c, 0, none⟩ h
theorem RdBs.keep {a b c base w w'} (h : RdBs a b c base w) (hb : Below base w w') : RdBs a b c base w' :=
  ⟨⟨h.rd.max.imp fun _ e => (hb.cell (p := ⟨a, 0, none⟩) h.la).trans e, h.rd.syn.imp fun _ e => ⟨(hb.cell (p := ⟨b, 0, none⟩) h.lb).trans e.1, e.2⟩, h.rd.rng.imp fun _ e => ⟨(hb.cell (p := ⟨c, 0, none⟩) h.lc).trans e.1, e.2⟩⟩, h.la, h.lb, h.lc⟩
theorem RdBs.get {a b c base w0 m w} (h : RdBs a b c base w0) (hh : Holds base w0 m w) : RdO a b c w := (h.keep hh.below).rd
end Go.Sx

/- What these functions of the program hand back, each proved by walking its operations. -/
set_option linter.unusedVariables false
set_option linter.unusedSimpArgs false
set_option maxRecDepth 4000
namespace Go.Proofs.YtdgfalhfmboalaaGreatDoor
open Go Go.Sx Go.RowKit Go.W Go.Proofs
attribute [local irreducible] Ex ExL ExD Op1 Free RetQ MutQ Reads CellO SegO LoadsAs
end Go.Proofs.YtdgfalhfmboalaaGreatDoor

/- What these functions of the program hand back, each proved by walking its operations. -/
set_option linter.unusedVariables false
set_option linter.unusedSimpArgs false
set_option maxRecDepth 4000
namespace Go.Proofs.YtdgfalhfmboalaaGreatDoor
open Go Go.Sx Go.RowKit Go.W Go.Proofs
attribute [local irreducible] Ex ExL ExD Op1 Free RetQ MutQ Reads CellO SegO LoadsAs
end Go.Proofs.YtdgfalhfmboalaaGreatDoor

/- What these functions of the program hand back, each proved by walking its operations. -/
set_option linter.unusedVariables false
set_option linter.unusedSimpArgs false
set_option maxRecDepth 4000
namespace Go.Proofs.YtdgfalhfmboalaaGreatDoor
open Go Go.Sx Go.RowKit Go.W Go.Proofs
attribute [local irreducible] Ex ExL ExD Op1 Free RetQ MutQ Reads CellO SegO LoadsAs
theorem e_74 : Enters Tryz.prog 74 := Enters.of Tryz.func74 rfl
theorem c_next (code : List Int) (Ac : Option Addr) (cc : Nat) (hcl : code.length ≤ maxLen) (hcu : Nums 255 code) (b : Nat) (at_ sd : Int) (hat : 0 ≤ at_ ∧ at_ ≤ 2000000000) : Mut Tryz.prog 74 [.pointer (some ⟨b, 0, none⟩)] [.blk b [.slice Ac code.length cc, .int .i64 at_, .int .u64 sd] 105] (fun base w0 F => RdB base w0 Ac (code.flatMap (eI .u8))) (fun x : Int × Int => .int .i64 x.1) (fun x => [.blk b [.slice Ac code.length cc, .int .i64 (at_ + 1), .int .u64 x.2] 105]) (fun x => 0 ≤ x.1 ∧ x.1 ≤ 255) := by
  refine Mut.of e_74 Tryz.func74 rfl Tryz.ntmps74 rfl rfl (fun base w0 F hfr => ?_)
  have hcode := hfr
  have hx := hcu.at_ (by omega) at_.toNat
  have hm0 : maxLen = 9223372036854775807 := rfl
  refine Ex.regSeq (ExL.pures 1 rfl ?_)
  refine ExL.nil ?_
  refine Ex.regSeq (ExL.pures 1 rfl ?_)
  refine ExL.nil ?_
  refine Ex.seq ?_
  refine Ex.drawSeqM rfl ?_
  refine ExD.take (i := 0) rfl (by kernel_rfl) (pureVal_ok rfl) ((List.Sublist.refl _)) rfl rfl rfl ?_
  refine ExD.take (i := 1) rfl (by kernel_rfl) (pureVal_ok rfl) ((List.Sublist.refl _)) rfl rfl rfl ?_
  refine ExD.take (i := 2) rfl (by kernel_rfl) (pureVal_ok rfl) ((List.Sublist.refl _)) rfl rfl rfl ?_
  refine ExD.take (i := 3) rfl (by kernel_rfl) (fr_load rfl rfl rfl rfl (CellO.blk (i := 0) rfl rfl)) ((List.Sublist.refl _)) rfl rfl rfl ?_
  refine ExD.take (i := 4) rfl (by kernel_rfl) (pureVal_ok rfl) ((List.Sublist.refl _)) rfl rfl rfl ?_
  refine ExD.take (i := 5) rfl (by kernel_rfl) (pureVal_ok rfl) ((List.Sublist.refl _)) rfl rfl rfl ?_
  refine ExD.take (i := 6) rfl (by kernel_rfl) (pureVal_ok rfl) ((List.Sublist.refl _)) rfl rfl rfl ?_
  refine ExD.take (i := 7) rfl (by kernel_rfl) (fr_load rfl rfl rfl rfl (CellO.blk (i := 0) rfl rfl)) ((List.Sublist.refl _)) rfl rfl rfl ?_
  refine ExD.take (i := 8) rfl (by kernel_rfl) (pureVal_ok rfl) ((List.Sublist.refl _)) rfl rfl rfl ?_
  refine ExD.cmp_lss (i := 9) rfl (by kernel_rfl) rfl rfl rfl ((List.Sublist.refl _)) rfl rfl rfl (fun h1 => ?_) (fun h1 => ?_)
  · refine ExD.done (by kernel_rfl) ?_
    refine Ex.cond_t rfl ?_
    refine Ex.drawM rfl ?_
    refine ExD.take (i := 0) rfl (by kernel_rfl) (pureVal_ok rfl) ((List.Sublist.refl _)) rfl rfl rfl ?_
    refine ExD.take (i := 1) rfl (by kernel_rfl) (pureVal_ok rfl) ((List.Sublist.refl _)) rfl rfl rfl ?_
    refine ExD.take (i := 2) rfl (by kernel_rfl) (pureVal_ok rfl) ((List.Sublist.refl _)) rfl rfl rfl ?_
    refine ExD.take (i := 3) rfl (by kernel_rfl) (fr_load rfl rfl rfl rfl (CellO.blk (i := 0) rfl rfl)) ((List.Sublist.refl _)) rfl rfl rfl ?_
    refine ExD.take (i := 4) rfl (by kernel_rfl) (pureVal_ok rfl) ((List.Sublist.refl _)) rfl rfl rfl ?_
    refine ExD.take (i := 5) rfl (by kernel_rfl) (pureVal_ok rfl) ((List.Sublist.refl _)) rfl rfl rfl ?_
    refine ExD.take (i := 6) rfl (by kernel_rfl) (pureVal_ok rfl) ((List.Sublist.refl _)) rfl rfl rfl ?_
    refine ExD.take (i := 7) rfl (by kernel_rfl) (fr_load rfl rfl rfl rfl (CellO.blk (i := 0) rfl rfl)) ((List.Sublist.refl _)) rfl rfl rfl ?_
    refine ExD.take (i := 8) rfl (by kernel_rfl) (fr_indexAddrF (Reads.old hcode) (eI_len .u8) rfl rfl rfl rfl rfl rfl (by omega)) ((List.Sublist.refl _)) rfl rfl rfl ?_
    refine ExD.take (i := 9) rfl (by kernel_rfl) (fr_load rfl rfl rfl rfl (by first | exact cellN (Reads.old hcode) (eI_len .u8) 0 0 rfl (by omega) rfl | exact cellF (Reads.old hcode) (eI_len .u8) 0 0 rfl (by omega) rfl)) ((List.Sublist.refl _)) rfl rfl rfl ?_
    refine ExD.take (i := 10) rfl (by kernel_rfl) (by first | exact fr_conv64 rfl rfl rfl rfl (by omega) | exact fr_conv rfl rfl rfl rfl) ((List.Sublist.refl _)) rfl rfl rfl ?_
    refine ExD.take (i := 11) rfl (by kernel_rfl) (pureVal_ok rfl) ((List.Sublist.refl _)) rfl rfl rfl ?_
    refine ExD.done (by kernel_rfl) ?_
    refine Ex.regSeq (ExL.pures 3 rfl ?_)
    refine ExL.free (fr_load rfl rfl rfl rfl (CellO.blk (i := 0) rfl rfl)) rfl rfl rfl ?_
    refine ExL.free (by first | exact fr_add64 rfl rfl rfl (by omega) | exact fr_add rfl rfl rfl) rfl rfl rfl ?_
    refine ExL.pures 2 rfl ?_
    refine ExL.op rfl (op_storeC (i := 0) rfl rfl rfl rfl rfl rfl rfl rfl rfl rfl ?_)
    refine ExL.nil ?_
    refine Ex.regSeq (ExL.pures 4 rfl ?_)
    refine ExL.free (fr_load rfl rfl rfl rfl (CellO.blk (i := 0) rfl rfl)) rfl rfl rfl ?_
    refine ExL.free (fr_mul rfl rfl rfl) rfl rfl rfl ?_
    refine ExL.pures 1 rfl ?_
    refine ExL.free (by first | exact fr_conv_u64 rfl rfl rfl rfl (by omega) | exact fr_conv rfl rfl rfl rfl) rfl rfl rfl ?_
    refine ExL.free (fr_add rfl rfl rfl) rfl rfl rfl ?_
    refine ExL.free (fr_add rfl rfl rfl) rfl rfl rfl ?_
    refine ExL.pures 2 rfl ?_
    refine ExL.op rfl (op_storeC (i := 0) rfl rfl rfl rfl rfl rfl rfl rfl rfl rfl ?_)
    refine ExL.nil ?_
    refine Ex.seq ?_
    refine Ex.drawSeqM rfl ?_
    refine ExD.take (i := 0) rfl (by kernel_rfl) (pureVal_ok rfl) ((List.Sublist.refl _)) rfl rfl rfl ?_
    refine ExD.take (i := 1) rfl (by kernel_rfl) (pureVal_ok rfl) ((List.Sublist.refl _)) rfl rfl rfl ?_
    refine ExD.take (i := 2) rfl (by kernel_rfl) (pureVal_ok rfl) ((List.Sublist.refl _)) rfl rfl rfl ?_
    refine ExD.take (i := 3) rfl (by kernel_rfl) (fr_load rfl rfl rfl rfl (CellO.blk (i := 0) rfl rfl)) ((List.Sublist.refl _)) rfl rfl rfl ?_
    refine ExD.take (i := 4) rfl (by kernel_rfl) (pureVal_ok rfl) ((List.Sublist.refl _)) rfl rfl rfl ?_
    refine ExD.take (i := 5) rfl (by kernel_rfl) (pureVal_ok rfl) ((List.Sublist.refl _)) rfl rfl rfl ?_
    refine ExD.take (i := 6) rfl (by kernel_rfl) (pureVal_ok rfl) ((List.Sublist.refl _)) rfl rfl rfl ?_
    refine ExD.take (i := 7) rfl (by kernel_rfl) (fr_load rfl rfl rfl rfl (CellO.blk (i := 0) rfl rfl)) ((List.Sublist.refl _)) rfl rfl rfl ?_
    refine ExD.take (i := 8) rfl (by kernel_rfl) (pureVal_ok rfl) ((List.Sublist.refl _)) rfl rfl rfl ?_
    refine ExD.cmp_leq (i := 9) rfl (by kernel_rfl) rfl rfl rfl ((List.Sublist.refl _)) rfl rfl rfl (fun h2 => ?_) (fun h2 => ?_)
    · refine ExD.done (by kernel_rfl) ?_
      refine Ex.cond_t rfl ?_
      refine Ex.regSeq (ExL.pures 2 rfl ?_)
      refine ExL.nil ?_
      refine Ex.ret ?_
      refine MutQ.mk (_, _) rfl (.tmp rfl .nil) (rfl) 1 [0] (rfl) rfl (by refine ⟨?_, ?_⟩ <;> first | exact hx.1 | exact hx.2 | (dsimp only; omega))
    · refine ExD.done (by kernel_rfl) ?_
      refine Ex.cond_f rfl ?_
      refine Ex.skip ?_
      refine Ex.regSeq (ExL.pures 3 rfl ?_)
      refine ExL.free (fr_load rfl rfl rfl rfl (CellO.blk (i := 0) rfl rfl)) rfl rfl rfl ?_
      refine ExL.free (fr_shr40 rfl rfl rfl) rfl rfl rfl ?_
      refine ExL.free (fr_and255w rfl rfl rfl) rfl rfl rfl ?_
      refine ExL.free (by first | exact fr_conv64 rfl rfl rfl rfl (by omega) | exact fr_conv rfl rfl rfl rfl) rfl rfl rfl ?_
      refine ExL.pures 1 rfl ?_
      refine ExL.nil ?_
      refine Ex.ret ?_
      refine MutQ.mk (_, _) rfl (.tmp rfl .nil) (rfl) 1 [0] (rfl) rfl (by refine ⟨?_, ?_⟩ <;> first | exact hx.1 | exact hx.2 | (dsimp only; omega))
  · refine ExD.done (by kernel_rfl) ?_
    refine Ex.cond_f rfl ?_
    refine Ex.skip ?_
    refine Ex.regSeq (ExL.pures 3 rfl ?_)
    refine ExL.free (fr_load rfl rfl rfl rfl (CellO.blk (i := 0) rfl rfl)) rfl rfl rfl ?_
    refine ExL.free (by first | exact fr_add64 rfl rfl rfl (by omega) | exact fr_add rfl rfl rfl) rfl rfl rfl ?_
    refine ExL.pures 2 rfl ?_
    refine ExL.op rfl (op_storeC (i := 0) rfl rfl rfl rfl rfl rfl rfl rfl rfl rfl ?_)
    refine ExL.nil ?_
    refine Ex.regSeq (ExL.pures 4 rfl ?_)
    refine ExL.free (fr_load rfl rfl rfl rfl (CellO.blk (i := 0) rfl rfl)) rfl rfl rfl ?_
    refine ExL.free (fr_mul rfl rfl rfl) rfl rfl rfl ?_
    refine ExL.pures 1 rfl ?_
    refine ExL.free (by first | exact fr_conv_u64 rfl rfl rfl rfl (by omega) | exact fr_conv rfl rfl rfl rfl) rfl rfl rfl ?_
    refine ExL.free (fr_add rfl rfl rfl) rfl rfl rfl ?_
    refine ExL.free (fr_add rfl rfl rfl) rfl rfl rfl ?_
    refine ExL.pures 2 rfl ?_
    refine ExL.op rfl (op_storeC (i := 0) rfl rfl rfl rfl rfl rfl rfl rfl rfl rfl ?_)
    refine ExL.nil ?_
    refine Ex.seq ?_
    refine Ex.drawSeqM rfl ?_
    refine ExD.take (i := 0) rfl (by kernel_rfl) (pureVal_ok rfl) ((List.Sublist.refl _)) rfl rfl rfl ?_
    refine ExD.take (i := 1) rfl (by kernel_rfl) (pureVal_ok rfl) ((List.Sublist.refl _)) rfl rfl rfl ?_
    refine ExD.take (i := 2) rfl (by kernel_rfl) (pureVal_ok rfl) ((List.Sublist.refl _)) rfl rfl rfl ?_
    refine ExD.take (i := 3) rfl (by kernel_rfl) (fr_load rfl rfl rfl rfl (CellO.blk (i := 0) rfl rfl)) ((List.Sublist.refl _)) rfl rfl rfl ?_
    refine ExD.take (i := 4) rfl (by kernel_rfl) (pureVal_ok rfl) ((List.Sublist.refl _)) rfl rfl rfl ?_
    refine ExD.take (i := 5) rfl (by kernel_rfl) (pureVal_ok rfl) ((List.Sublist.refl _)) rfl rfl rfl ?_
    refine ExD.take (i := 6) rfl (by kernel_rfl) (pureVal_ok rfl) ((List.Sublist.refl _)) rfl rfl rfl ?_
    refine ExD.take (i := 7) rfl (by kernel_rfl) (fr_load rfl rfl rfl rfl (CellO.blk (i := 0) rfl rfl)) ((List.Sublist.refl _)) rfl rfl rfl ?_
    refine ExD.take (i := 8) rfl (by kernel_rfl) (pureVal_ok rfl) ((List.Sublist.refl _)) rfl rfl rfl ?_
    refine ExD.cmp_leq (i := 9) rfl (by kernel_rfl) rfl rfl rfl ((List.Sublist.refl _)) rfl rfl rfl (fun h3 => ?_) (fun h3 => ?_)
    · refine ExD.done (by kernel_rfl) ?_
      refine Ex.cond_t rfl ?_
      refine Ex.regSeq (ExL.pures 2 rfl ?_)
      refine ExL.nil ?_
      refine Ex.ret ?_
      refine MutQ.mk (_, _) rfl (.tmp rfl .nil) (rfl) 1 [0] (rfl) rfl (by refine ⟨?_, ?_⟩ <;> first | exact hx.1 | exact hx.2 | (dsimp only; omega))
    · refine ExD.done (by kernel_rfl) ?_
      refine Ex.cond_f rfl ?_
      refine Ex.skip ?_
      refine Ex.regSeq (ExL.pures 3 rfl ?_)
      refine ExL.free (fr_load rfl rfl rfl rfl (CellO.blk (i := 0) rfl rfl)) rfl rfl rfl ?_
      refine ExL.free (fr_shr40 rfl rfl rfl) rfl rfl rfl ?_
      refine ExL.free (fr_and255w rfl rfl rfl) rfl rfl rfl ?_
      refine ExL.free (by first | exact fr_conv64 rfl rfl rfl rfl (by omega) | exact fr_conv rfl rfl rfl rfl) rfl rfl rfl ?_
      refine ExL.pures 1 rfl ?_
      refine ExL.nil ?_
      refine Ex.ret ?_
      refine MutQ.mk (_, _) rfl (.tmp rfl .nil) (rfl) 1 [0] (rfl) rfl (by refine ⟨?_, ?_⟩ <;> first | exact hx.1 | exact hx.2 | (dsimp only; omega))
theorem e_36 : Enters Tryz.prog 36 := Enters.of Tryz.func36 rfl
theorem c_pick (code : List Int) (Ac : Option Addr) (cc : Nat) (hcl : code.length ≤ maxLen) (hcu : Nums 255 code) (b : Nat) (at_ sd : Int) (hat : 0 ≤ at_ ∧ at_ ≤ 1000000000) (n : Int) (hn : n ≤ 9223372036854775807) : Mut Tryz.prog 36 [.pointer (some ⟨b, 0, none⟩), .int .i64 n] [.blk b [.slice Ac code.length cc, .int .i64 at_, .int .u64 sd] 105] (fun base w0 F => RdB base w0 Ac (code.flatMap (eI .u8))) (fun x : Int × Int × Int => .int .i64 x.1) (fun x => [.blk b [.slice Ac code.length cc, .int .i64 x.2.1, .int .u64 x.2.2] 105]) (fun x => 0 ≤ x.1 ∧ (x.1 < n ∨ x.1 = 0) ∧ at_ ≤ x.2.1 ∧ x.2.1 ≤ at_ + 2 ∧ x.1 ≤ 65535) := by
  refine Mut.of e_36 Tryz.func36 rfl Tryz.ntmps36 rfl rfl (fun base w0 F hfr => ?_)
  have hcode := hfr
  have hm0 : maxLen = 9223372036854775807 := rfl
  refine Ex.regSeq (ExL.pures 1 rfl ?_)
  refine ExL.nil ?_
  refine Ex.seq ?_
  refine Ex.regSeq (ExL.pures 1 rfl ?_)
  refine ExL.leq rfl rfl rfl rfl rfl rfl (fun h1 => ?_) (fun h1 => ?_)
  · refine ExL.nil ?_
    refine Ex.cond_t rfl ?_
    refine Ex.regSeq (ExL.pures 1 rfl ?_)
    refine ExL.nil ?_
    refine Ex.ret ?_
    refine MutQ.mk (_, _, _) rfl (.tmp rfl .nil) (rfl) 1 [0] (rfl) rfl (by refine ⟨?_, ?_, ?_, ?_, ?_⟩ <;> first | exact hm1 _ | exact .inl (hm2 _) | (dsimp only; omega) | (refine Int.le_trans (hm3 _ ?_) ?_ <;> omega))
  · refine ExL.nil ?_
    refine Ex.cond_f rfl ?_
    refine Ex.skip ?_
    refine Ex.regSeq (ExL.pures 1 rfl ?_)
    refine ExL.op rfl (op_mut rfl rfl rfl (c_next code _ _ (by omega) (by assumption) _ at_ _ (by omega)) (perm_at (i := 0) rfl) (hcode) rfl rfl (fun x2 hx2 => ?_))
    refine ExL.pures 1 rfl ?_
    refine ExL.nil ?_
    refine Ex.seq ?_
    refine Ex.regSeq (ExL.pures 1 rfl ?_)
    refine ExL.gtr rfl rfl rfl rfl rfl rfl (fun h3 => ?_) (fun h3 => ?_)
    · refine ExL.nil ?_
      refine Ex.cond_t rfl ?_
      refine Ex.region (ExL.pures 1 rfl ?_)
      refine ExL.free (by first | exact fr_mul64 rfl rfl rfl (by omega) | exact fr_mul rfl rfl rfl) rfl rfl rfl ?_
      refine ExL.pures 1 rfl ?_
      refine ExL.op rfl (op_mut rfl rfl rfl (c_next code _ _ (by omega) (by assumption) _ (at_ + 1) _ (by omega)) (perm_at (i := 0) rfl) (hcode) rfl rfl (fun x4 hx4 => ?_))
      refine ExL.free (by first | exact fr_add64 rfl rfl rfl (by omega) | exact fr_add rfl rfl rfl) rfl rfl rfl ?_
      refine ExL.pures 1 rfl ?_
      refine ExL.nil ?_
      have hm1 := fun z => Int.emod_nonneg z (show n ≠ 0 by omega)
      have hm2 := fun z => Int.emod_lt_of_pos z (show 0 < n by omega)
      have hm3 := fun z hz => mod_le (z := z) (n := n) hz (by omega)
      refine Ex.regSeq (ExL.pures 2 rfl ?_)
      refine ExL.free (by first | exact fr_remP rfl rfl rfl (by omega) | exact fr_rem rfl rfl rfl (by omega)) rfl rfl rfl ?_
      refine ExL.pures 1 rfl ?_
      refine ExL.nil ?_
      refine Ex.ret ?_
      refine MutQ.mk (_, _, _) rfl (.tmp rfl .nil) (rfl) 1 [0] (rfl) rfl (by refine ⟨?_, ?_, ?_, ?_, ?_⟩ <;> first | exact hm1 _ | exact .inl (hm2 _) | (dsimp only; omega) | (refine Int.le_trans (hm3 _ ?_) ?_ <;> omega))
    · refine ExL.nil ?_
      refine Ex.cond_f rfl ?_
      refine Ex.skip ?_
      have hm1 := fun z => Int.emod_nonneg z (show n ≠ 0 by omega)
      have hm2 := fun z => Int.emod_lt_of_pos z (show 0 < n by omega)
      have hm3 := fun z hz => mod_le (z := z) (n := n) hz (by omega)
      refine Ex.regSeq (ExL.pures 2 rfl ?_)
      refine ExL.free (by first | exact fr_remP rfl rfl rfl (by omega) | exact fr_rem rfl rfl rfl (by omega)) rfl rfl rfl ?_
      refine ExL.pures 1 rfl ?_
      refine ExL.nil ?_
      refine Ex.ret ?_
      refine MutQ.mk (_, _, _) rfl (.tmp rfl .nil) (rfl) 1 [0] (rfl) rfl (by refine ⟨?_, ?_, ?_, ?_, ?_⟩ <;> first | exact hm1 _ | exact .inl (hm2 _) | (dsimp only; omega) | (refine Int.le_trans (hm3 _ ?_) ?_ <;> omega))
end Go.Proofs.YtdgfalhfmboalaaGreatDoor

/- What these functions of the program hand back, each proved by walking its operations. -/
set_option linter.unusedVariables false
set_option linter.unusedSimpArgs false
set_option maxRecDepth 4000
namespace Go.Proofs.YtdgfalhfmboalaaGreatDoor
open Go Go.Sx Go.RowKit Go.W Go.Proofs
attribute [local irreducible] Ex ExL ExD Op1 Free RetQ MutQ Reads CellO SegO LoadsAs
theorem e_33 : Enters Tryz.prog 33 := Enters.of Tryz.func33 rfl
theorem c_l00From (code : List Int) (Ac : Option Addr) (cc : Nat) : Ret Tryz.prog 33 [.slice Ac code.length cc] (fun w => True) (fun x : Nat => .pointer (some ⟨x, 0, none⟩)) (fun x => [.blk x [.slice Ac code.length cc, .int .i64 0, .int .u64 0] 105]) (fun x => True) := by
  refine Ret.of e_33 Tryz.func33 rfl Tryz.ntmps33 rfl rfl (fun w hpre => ?_)
  refine Ex.regSeq (ExL.pures 1 rfl ?_)
  refine ExL.nil ?_
  refine Ex.regSeq (ExL.pures 1 rfl ?_)
  refine ExL.free (fr_build rfl rfl rfl rfl) rfl rfl rfl ?_
  refine ExL.op rfl (op_box rfl rfl rfl rfl rfl (fun b1 => ?_))
  refine ExL.pures 1 rfl ?_
  refine ExL.nil ?_
  refine Ex.ret ?_
  refine RetQ.mk _ rfl (.tmp rfl .nil) (rfl) [0] (rfl) rfl (trivial)
theorem e_60 : Enters Tryz.prog 60 := Enters.of Tryz.func60 rfl
theorem c_l00Same (s : List Int) (As : Option Addr) (cs : Nat) (hls : s.length ≤ maxLen) (t : List Int) (At : Option Addr) (ct : Nat) (hlt : t.length ≤ maxLen) : Ret Tryz.prog 60 [.slice As s.length cs, .slice At t.length ct] (fun w => Rd w As (s.flatMap (eI .i64)) ∧ Rd w At (t.flatMap (eI .i64))) (fun x : Unit => .bool (decide (s = t))) (fun x => []) (fun x => True) := by
  refine Ret.of e_60 Tryz.func60 rfl Tryz.ntmps60 rfl rfl (fun w hpre => ?_)
  have hs := hpre.1.base
  have ht := hpre.2.base
  have hm0 : maxLen = 9223372036854775807 := rfl
  refine Ex.regSeq (ExL.pures 1 rfl ?_)
  refine ExL.nil ?_
  refine Ex.seq ?_
  refine Ex.regSeq (ExL.pures 4 rfl ?_)
  refine ExL.neq rfl rfl rfl rfl rfl rfl (fun h1 => ?_) (fun h1 => ?_)
  · refine ExL.nil ?_
    refine Ex.cond_t rfl ?_
    refine Ex.regSeq (ExL.pures 1 rfl ?_)
    refine ExL.nil ?_
    refine Ex.ret ?_
    refine RetQ.mk () rfl (.tmp rfl .nil) (tB (by first | exact eq_len (by omega) | exact eq_no k (by assumption) | exact eq_yes (k := k) (by omega) (by omega) hall)) [] (rfl) rfl (trivial)
  · refine ExL.nil ?_
    refine Ex.cond_f rfl ?_
    refine Ex.skip ?_
    refine Ex.seq ?_
    refine Ex.regSeq (ExL.pures 1 rfl ?_)
    refine ExL.nil ?_
    refine Ex.block ?_
    refine Ex.loopK (X := Nat) (fun k => [(5, .int .i64 k)]) (fun k => []) (fun k => k ≤ s.length ∧ ∀ i, i < k → s.getD i 0 = t.getD i 0) (fun k => s.length - k) 0 [(0, _), (1, _)] [] 0 [] ⟨rfl, trivial⟩ ⟨rfl, rfl, trivial⟩ (rfl) rfl ⟨Nat.zero_le _, fun i hi => by omega⟩ (fun k hI => ?_)
    have hI : k ≤ s.length ∧ ∀ i, i < k → s.getD i 0 = t.getD i 0 := hI
    obtain ⟨hk, hall⟩ := hI
    refine Ex.seq ?_
    refine Ex.regSeq (ExL.pures 3 rfl ?_)
    refine ExL.lss rfl rfl rfl rfl rfl rfl (fun h2 => ?_) (fun h2 => ?_)
    · refine ExL.nil ?_
      refine Ex.cond_t rfl ?_
      refine Ex.skip ?_
      refine Ex.seq ?_
      refine Ex.block ?_
      refine Ex.drawSeqM rfl ?_
      refine ExD.take (i := 0) rfl (by kernel_rfl) (pureVal_ok rfl) ((List.Sublist.refl _)) rfl rfl rfl ?_
      refine ExD.take (i := 1) rfl (by kernel_rfl) (pureVal_ok rfl) ((List.Sublist.refl _)) rfl rfl rfl ?_
      refine ExD.take (i := 2) rfl (by kernel_rfl) (fr_indexAddrF (Reads.old hs) (eI_len .i64) rfl rfl rfl rfl rfl rfl (by omega)) ((List.Sublist.refl _)) rfl rfl rfl ?_
      refine ExD.take (i := 3) rfl (by kernel_rfl) (fr_load rfl rfl rfl rfl (by first | exact cellN (Reads.old hs) (eI_len .i64) 0 0 rfl (by omega) rfl | exact cellF (Reads.old hs) (eI_len .i64) 0 0 rfl (by omega) rfl)) ((List.Sublist.refl _)) rfl rfl rfl ?_
      refine ExD.take (i := 4) rfl (by kernel_rfl) (pureVal_ok rfl) ((List.Sublist.refl _)) rfl rfl rfl ?_
      refine ExD.take (i := 5) rfl (by kernel_rfl) (pureVal_ok rfl) ((List.Sublist.refl _)) rfl rfl rfl ?_
      refine ExD.take (i := 6) rfl (by kernel_rfl) (fr_indexAddrF (Reads.old ht) (eI_len .i64) rfl rfl rfl rfl rfl rfl (by omega)) ((List.Sublist.refl _)) rfl rfl rfl ?_
      refine ExD.take (i := 7) rfl (by kernel_rfl) (fr_load rfl rfl rfl rfl (by first | exact cellN (Reads.old ht) (eI_len .i64) 0 0 rfl (by omega) rfl | exact cellF (Reads.old ht) (eI_len .i64) 0 0 rfl (by omega) rfl)) ((List.Sublist.refl _)) rfl rfl rfl ?_
      refine ExD.cmp_neq (i := 8) rfl (by kernel_rfl) rfl rfl rfl ((List.Sublist.refl _)) rfl rfl rfl (fun h3 => ?_) (fun h3 => ?_)
      · refine ExD.done (by kernel_rfl) ?_
        refine Ex.cond_t rfl ?_
        refine Ex.regSeq (ExL.pures 1 rfl ?_)
        refine ExL.nil ?_
        refine Ex.ret ?_
        refine RetQ.mk () rfl (.tmp rfl .nil) (tB (by first | exact eq_len (by omega) | exact eq_no k (by assumption) | exact eq_yes (k := k) (by omega) (by omega) hall)) [] (rfl) rfl (trivial)
      · refine ExD.done (by kernel_rfl) ?_
        refine Ex.cond_f rfl ?_
        refine Ex.skip ?_
        refine Ex.region (ExL.pures 1 rfl ?_)
        refine ExL.free (by first | exact fr_add64 rfl rfl rfl (by omega) | exact fr_add rfl rfl rfl) rfl rfl rfl ?_
        refine ExL.pures 1 rfl ?_
        refine ExL.nil ?_
        refine Hand.mk (k + 1) 0 [] ⟨rfl, trivial⟩ ⟨rfl, rfl, trivial⟩ (rfl) rfl (⟨by omega, all_snoc hall (by first | assumption | omega)⟩) (by omega)
    · refine ExL.nil ?_
      refine Ex.cond_f rfl ?_
      refine Ex.exit ?_
      refine Ex.regSeq (ExL.pures 1 rfl ?_)
      refine ExL.nil ?_
      refine Ex.ret ?_
      refine RetQ.mk () rfl (.tmp rfl .nil) (tB (by first | exact eq_len (by omega) | exact eq_no k (by assumption) | exact eq_yes (k := k) (by omega) (by omega) hall)) [] (rfl) rfl (trivial)
end Go.Proofs.YtdgfalhfmboalaaGreatDoor

/- What these functions of the program hand back, each proved by walking its operations. -/
set_option linter.unusedVariables false
set_option linter.unusedSimpArgs false
set_option maxRecDepth 4000
namespace Go.Proofs.YtdgfalhfmboalaaGreatDoor
open Go Go.Sx Go.RowKit Go.W Go.Proofs
attribute [local irreducible] Ex ExL ExD Op1 Free RetQ MutQ Reads CellO SegO LoadsAs
theorem e_4 : Enters Tryz.prog 4 := Enters.of Tryz.func4 rfl
theorem c_f6big (s : List Int) (As : Option Addr) (cs : Nat) (hls : s.length ≤ maxLen) : Ret Tryz.prog 4 [.slice As s.length cs] (fun w => True) (fun x : Unit => .bool (decide (4096 < s.length))) (fun x => []) (fun x => True) := by
  refine Ret.of e_4 Tryz.func4 rfl Tryz.ntmps4 rfl rfl (fun w hpre => ?_)
  have hm0 : maxLen = 9223372036854775807 := rfl
  refine Ex.regSeq (ExL.pures 1 rfl ?_)
  refine ExL.nil ?_
  refine Ex.regSeq (ExL.pures 2 rfl ?_)
  refine ExL.gtr rfl rfl rfl rfl rfl rfl (fun h1 => ?_) (fun h1 => ?_)
  · refine ExL.pures 1 rfl ?_
    refine ExL.nil ?_
    refine Ex.ret ?_
    refine RetQ.mk () rfl (.tmp rfl .nil) (tB (by first | exact dec_t (by omega) | exact dec_f (by omega) | exact decide_eq_decide.2 (by omega))) [] (rfl) rfl (trivial)
  · refine ExL.pures 1 rfl ?_
    refine ExL.nil ?_
    refine Ex.ret ?_
    refine RetQ.mk () rfl (.tmp rfl .nil) (tB (by first | exact dec_t (by omega) | exact dec_f (by omega) | exact decide_eq_decide.2 (by omega))) [] (rfl) rfl (trivial)
theorem e_72 : Enters Tryz.prog 72 := Enters.of Tryz.func72 rfl
theorem c_among (code : List Int) (Ac : Option Addr) (cc : Nat) (hcl : code.length ≤ maxLen) (hcu : Nums 255 code) (b : Nat) (at_ sd : Int) (hat : 0 ≤ at_ ∧ at_ ≤ 1000000000) (l : List Int) (Al : Option Addr) (cl : Nat) (hll : 0 < l.length ∧ l.length ≤ 60000) : Mut Tryz.prog 72 [.pointer (some ⟨b, 0, none⟩), .slice Al l.length cl] [.blk b [.slice Ac code.length cc, .int .i64 at_, .int .u64 sd] 105, .row (.slice Al l.length cl) 2 1 l.length (l.flatMap (eI .i64))] (fun base w0 F => RdB base w0 Ac (code.flatMap (eI .u8))) (fun x : Nat × Int × Int => .int .i64 (l.getD x.1 0)) (fun x => [.blk b [.slice Ac code.length cc, .int .i64 x.2.1, .int .u64 x.2.2] 105, .row (.slice Al l.length cl) 2 1 l.length (l.flatMap (eI .i64))]) (fun x => x.1 < l.length ∧ at_ ≤ x.2.1 ∧ x.2.1 ≤ at_ + 2) := by
  refine Mut.of e_72 Tryz.func72 rfl Tryz.ntmps72 rfl rfl (fun base w0 F hfr => ?_)
  have hcode := hfr
  have hm0 : maxLen = 9223372036854775807 := rfl
  refine Ex.regSeq (ExL.pures 1 rfl ?_)
  refine ExL.nil ?_
  refine Ex.regSeq (ExL.pures 4 rfl ?_)
  refine ExL.op rfl (op_mut rfl rfl rfl (c_pick code _ _ (by omega) (by assumption) _ at_ _ (by omega) l.length (by omega)) (perm_at (i := 0) rfl) (hcode) rfl rfl (fun x1 hx1 => ?_))
  refine ExL.free (fr_indexAddrR (sz := 1) 1 rfl rfl rfl rfl rfl rfl (by omega)) rfl rfl rfl ?_
  refine ExL.free (fr_load rfl rfl rfl rfl (by first | exact cellN (Reads.row (i := 1) rfl) (eI_len .i64) 0 0 rfl (by omega) rfl | exact cellF (Reads.row (i := 1) rfl) (eI_len .i64) 0 0 rfl (by omega) rfl)) rfl rfl rfl ?_
  refine ExL.pures 1 rfl ?_
  refine ExL.nil ?_
  refine Ex.ret ?_
  refine MutQ.mk (x1.1.toNat, x1.2.1, x1.2.2) rfl (.tmp rfl .nil) (tI (by first | rfl | (simp; done))) 2 [0, 1] (rfl) rfl (by refine ⟨?_, ?_, ?_⟩ <;> dsimp only <;> omega)
theorem e_34 : Enters Tryz.prog 34 := Enters.of Tryz.func34 rfl
theorem c_one (code : List Int) (Ac : Option Addr) (cc : Nat) (hcl : code.length ≤ maxLen) (hcu : Nums 255 code) (b : Nat) (at_ sd : Int) (hat : 0 ≤ at_ ∧ at_ ≤ 1000000000) (n : Int) (hn : n ≤ 60000) : Mut Tryz.prog 34 [.pointer (some ⟨b, 0, none⟩), .int .i64 n] [.blk b [.slice Ac code.length cc, .int .i64 at_, .int .u64 sd] 105] (fun base w0 F => RdB base w0 Ac (code.flatMap (eI .u8))) (fun x : Bool × Int × Int => .bool x.1) (fun x => [.blk b [.slice Ac code.length cc, .int .i64 x.2.1, .int .u64 x.2.2] 105]) (fun x => at_ ≤ x.2.1 ∧ x.2.1 ≤ at_ + 2) := by
  refine Mut.of e_34 Tryz.func34 rfl Tryz.ntmps34 rfl rfl (fun base w0 F hfr => ?_)
  have hcode := hfr
  have hm0 : maxLen = 9223372036854775807 := rfl
  refine Ex.regSeq (ExL.pures 1 rfl ?_)
  refine ExL.nil ?_
  refine Ex.regSeq (ExL.pures 2 rfl ?_)
  refine ExL.op rfl (op_mut rfl rfl rfl (c_pick code _ _ (by omega) (by assumption) _ at_ _ (by omega) n (by omega)) (perm_at (i := 0) rfl) (hcode) rfl rfl (fun x1 hx1 => ?_))
  refine ExL.free (fr_eql rfl rfl rfl) rfl rfl rfl ?_
  refine ExL.pures 1 rfl ?_
  refine ExL.nil ?_
  refine Ex.ret ?_
  refine MutQ.mk (_, x1.2.1, x1.2.2) rfl (.tmp rfl .nil) (rfl) 1 [0] (rfl) rfl (by constructor <;> dsimp only <;> omega)
end Go.Proofs.YtdgfalhfmboalaaGreatDoor

/- What these functions of the program hand back, each proved by walking its operations. -/
set_option linter.unusedVariables false
set_option linter.unusedSimpArgs false
set_option maxRecDepth 4000
namespace Go.Proofs.YtdgfalhfmboalaaGreatDoor
open Go Go.Sx Go.RowKit Go.W Go.Proofs
attribute [local irreducible] Ex ExL ExD Op1 Free RetQ MutQ Reads CellO SegO LoadsAs
theorem e_32 : Enters Tryz.prog 32 := Enters.of Tryz.func32 rfl
theorem c_l01Drawn (code : List Int) (Ac : Option Addr) (cc : Nat) (hcl : code.length ≤ maxLen) (hcu : Nums 255 code) (b : Nat) (at_ sd : Int) (hat : 0 ≤ at_ ∧ at_ ≤ 1000000) : Mut Tryz.prog 32 [.pointer (some ⟨b, 0, none⟩)] [.blk b [.slice Ac code.length cc, .int .i64 at_, .int .u64 sd] 105] (fun base w0 F => RdB base w0 Ac (code.flatMap (eI .u8))) (fun x : (Int × Int) × (Option Addr × Nat) × List Int => .slice x.2.1.1 x.2.2.length x.2.1.2) (fun x => [.blk b [.slice Ac code.length cc, .int .i64 x.1.1, .int .u64 x.1.2] 105, .row (.slice x.2.1.1 x.2.2.length x.2.1.2) 5 1 x.2.2.length (x.2.2.flatMap (eI .u8))]) (fun x => DrStk x.2.2 ∧ at_ ≤ x.1.1 ∧ x.1.1 ≤ at_ + 10) := by
  refine Mut.of e_32 Tryz.func32 rfl Tryz.ntmps32 rfl rfl (fun base w0 F hfr => ?_)
  have hcode := hfr
  have hm0 : maxLen = 9223372036854775807 := rfl
  refine Ex.regSeq (ExL.pures 1 rfl ?_)
  refine ExL.nil ?_
  refine Ex.regSeq (ExL.pures 0 rfl ?_)
  refine ExL.op rfl (op_buildSlice (sz := 1) rfl rfl rfl rfl rfl rfl rfl rfl (by decide) rfl rfl rfl (fun r1 => ?_))
  refine ExL.pures 1 rfl ?_
  refine ExL.nil ?_
  refine Ex.seq ?_
  refine Ex.regSeq (ExL.pures 1 rfl ?_)
  refine ExL.op rfl (op_mut rfl rfl rfl (c_pick code _ _ (by omega) (by assumption) _ at_ _ (by omega) 4 (by omega)) (perm_at (i := 1) rfl) (hcode) rfl rfl (fun x2 hx2 => ?_))
  refine ExL.free (by first | exact fr_add64 rfl rfl rfl (by omega) | exact fr_add rfl rfl rfl) rfl rfl rfl ?_
  refine ExL.pures 1 rfl ?_
  refine ExL.nil ?_
  refine Ex.block ?_
  refine Ex.loopK (X := StS) (fun q => [(3, .slice q.A q.l.length q.c), (4, .int .i64 q.k)]) (fun q => [.blk b [.slice Ac code.length cc, .int .i64 q.at_, .int .u64 q.sd] 105, .row (.slice q.A q.l.length q.c) 5 1 q.l.length (q.l.flatMap (eI .u8))]) (fun q => StkP q.l ∧ (q.l.length : Int) + q.k ≤ 4 ∧ 1 ≤ (q.l.length : Int) + q.k ∧ 0 ≤ q.k ∧ at_ ≤ q.at_ ∧ q.at_ ≤ at_ + 2 + 2 * q.l.length) (fun q => q.k.toNat) (⟨[], (1 + x2.1), x2.2.1, x2.2.2, (some ⟨r1, 0, none⟩), 0⟩ : StS) [(0, _), (2, _)] (F) 2 [0, 1] ⟨rfl, rfl, trivial⟩ ⟨rfl, rfl, trivial⟩ (rfl) rfl ⟨StkP.nil, by dsimp only [List.length_nil]; omega, by dsimp only [List.length_nil]; omega, by dsimp only; omega, by dsimp only; omega, by dsimp only [List.length_nil]; omega⟩ (fun q hI => ?_)
  have hI : StkP q.l ∧ (q.l.length : Int) + q.k ≤ 4 ∧ 1 ≤ (q.l.length : Int) + q.k ∧ 0 ≤ q.k ∧ at_ ≤ q.at_ ∧ q.at_ ≤ at_ + 2 + 2 * q.l.length := hI
  obtain ⟨hP, hlk, hlk1, hk0, hat1, hat2⟩ := hI
  refine Ex.seq ?_
  refine Ex.regSeq (ExL.pures 1 rfl ?_)
  refine ExL.gtr rfl rfl rfl rfl rfl rfl (fun h3 => ?_) (fun h3 => ?_)
  · refine ExL.nil ?_
    refine Ex.cond_t rfl ?_
    refine Ex.skip ?_
    refine Ex.seq ?_
    refine Ex.block ?_
    refine Ex.region (ExL.pures 2 rfl ?_)
    refine ExL.op rfl (op_buildSlice (sz := 1) rfl rfl rfl rfl rfl rfl rfl rfl (by decide) rfl rfl rfl (fun r4 => ?_))
    refine ExL.op rfl (op_mut rfl rfl rfl (c_among code _ _ (by omega) (by assumption) _ q.at_ _ (by omega) [10, 10, 10, 60, 24, 2, 3, 12, 100] _ _ (by decide)) (perm_gt (i := 1) (j := 0) rfl rfl rfl) (hcode) rfl rfl (fun x5 hx5 => ?_))
    have hmx5 := getD_mem (s := [10, 10, 10, 60, 24, 2, 3, 12, 100]) 0 hx5.1
    simp only [List.mem_cons, List.not_mem_nil, or_false] at hmx5
    refine ExL.free (by first | exact fr_conv_u8 rfl rfl rfl rfl (by omega) | exact fr_conv rfl rfl rfl rfl) rfl rfl rfl ?_
    refine ExL.op rfl (op_buildSlice (sz := 1) rfl rfl rfl rfl rfl rfl rfl rfl (by decide) rfl rfl rfl (fun r6 => ?_))
    refine ExL.op rfl (op_append (sz := 1) (bytes := 1) (i := 3) rfl rfl rfl rfl (Reads.row (i := 0) rfl) rfl (fun e => nomatch e) rfl rfl rfl rfl (by constructor <;> first | omega | (unfold maxLen; omega)) rfl rfl (fun A7 cA7 => ?_))
    refine ExL.pures 1 rfl ?_
    refine ExL.nil ?_
    refine Ex.region (ExL.pures 1 rfl ?_)
    refine ExL.free (by first | exact fr_sub64 rfl rfl rfl (by omega) | exact fr_sub rfl rfl rfl) rfl rfl rfl ?_
    refine ExL.pures 1 rfl ?_
    refine ExL.nil ?_
    refine Hand.mk (⟨q.l ++ [([10, 10, 10, 60, 24, 2, 3, 12, 100].getD x5.1 0)], q.k - 1, x5.2.1, x5.2.2, A7, cA7⟩ : StS) 4 [1, 3] ⟨(by rw [List.length_append]; rfl), rfl, trivial⟩ ⟨rfl, rfl, trivial⟩ (by rw [List.length_append, List.flatMap_append]; rfl) rfl (⟨hP.next (by omega), by dsimp only; rw [List.length_append, List.length_singleton]; omega, by dsimp only; rw [List.length_append, List.length_singleton]; omega, by dsimp only; omega, by dsimp only; omega, by dsimp only; rw [List.length_append, List.length_singleton]; push_cast; omega⟩) (by dsimp only; omega)
  · refine ExL.nil ?_
    refine Ex.cond_f rfl ?_
    refine Ex.exit ?_
    refine Ex.regSeq (ExL.pures 2 rfl ?_)
    refine ExL.nil ?_
    refine Ex.ret ?_
    refine MutQ.mk ((q.at_, q.sd), (q.A, q.c), q.l) rfl (.tmp rfl .nil) (rfl) 2 [0, 1] (rfl) rfl (⟨⟨hP, by dsimp only; omega, by dsimp only; omega⟩, by dsimp only; omega, by dsimp only; omega⟩)
end Go.Proofs.YtdgfalhfmboalaaGreatDoor

/-
  DERIVED: THE SHELF's CONTRACTS AT THIS DUMP, IN PLAIN WORDS (tools/lay-plain.mjs out of 'TryzShelf.lean', which tools/lay-shelf.mjs wrote): THE SAME DECLARATIONS UNDER THE SAME NAMES: 'import', 'namespace', 'open', 'def', 'theorem' AND NOTHING ELSE: no command of the shelf's: FOR A HAND-IN. Each laying: the table of numbers ('.._ren') and one theorem, a field a fact of the dump's own or the kernel's comparison; each contract: ONE APPLICATION.
-/
namespace Go.Proofs
open Go.Shelf
def Tryz.lays156_ren : Go.Shelf.Ren := ⟨fun | 156 => 48 | 165 => 86 | 166 => 87 | 169 => 88 | 240 => 102 | 241 => 103 | 276 => 120 | 277 => 121 | n => n, fun | 31 => 69 | 9 => 9 | 3 => 3 | 4 => 4 | 0 => 0 | 20 => 20 | 72 => 121 | 76 => 123 | 70 => 119 | 37 => 22 | 75 => 114 | 127 => 137 | 164 => 156 | 5 => 5 | 80 => 125 | n => n, fun | n => n⟩
theorem Tryz.lays156 : Go.Proofs.Lays.n156 Tryz.prog Tryz.lays156_ren := {
  mixed := by kernel_rfl
  f156 := Tryz.func48.trans (congrArg some (by kernel_rfl))
  f165 := Tryz.func86.trans (congrArg some (by kernel_rfl))
  f166 := Tryz.func87.trans (congrArg some (by kernel_rfl))
  f169 := Tryz.func88.trans (congrArg some (by kernel_rfl))
  f240 := Tryz.func102.trans (congrArg some (by kernel_rfl))
  f241 := Tryz.func103.trans (congrArg some (by kernel_rfl))
  f276 := Tryz.func120.trans (congrArg some (by kernel_rfl))
  f277 := Tryz.func121.trans (congrArg some (by kernel_rfl))
  t0 := Tryz.underlying0
  a0 := Tryz.isAgg0
  z0 := Tryz.sizeOf0
  v0 := Tryz.zeroValue0
  t3 := Tryz.underlying3
  a3 := Tryz.isAgg3
  z3 := Tryz.sizeOf3
  v3 := Tryz.zeroValue3
  t4 := Tryz.underlying4
  a4 := Tryz.isAgg4
  z4 := Tryz.sizeOf4
  v4 := Tryz.zeroValue4
  t9 := Tryz.underlying9
  a9 := Tryz.isAgg9
  z9 := Tryz.sizeOf9
  v9 := Tryz.zeroValue9
  t20 := Tryz.underlying20
  a20 := Tryz.isAgg20
  z20 := Tryz.sizeOf20
  v20 := Tryz.zeroValue20
  t31 := Tryz.underlying69
  a31 := Tryz.isAgg69
  z31 := Tryz.sizeOf69
  v31 := Tryz.zeroValue69
  t37 := Tryz.underlying22
  a37 := Tryz.isAgg22
  z37 := Tryz.sizeOf22
  v37 := Tryz.zeroValue22
  t70 := Tryz.underlying119
  a70 := Tryz.isAgg119
  z70 := Tryz.sizeOf119
  v70 := Tryz.zeroValue119
  t72 := Tryz.underlying121
  a72 := Tryz.isAgg121
  z72 := Tryz.sizeOf121
  v72 := Tryz.zeroValue121
  t75 := Tryz.underlying114
  a75 := Tryz.isAgg114
  z75 := Tryz.sizeOf114
  v75 := Tryz.zeroValue114
  t76 := Tryz.underlying123
  a76 := Tryz.isAgg123
  z76 := Tryz.sizeOf123
  v76 := Tryz.zeroValue123
  t127 := Tryz.underlying137
  a127 := Tryz.isAgg137
  z127 := Tryz.sizeOf137
  v127 := Tryz.zeroValue137
  t164 := Tryz.underlying156
  a164 := Tryz.isAgg156
  z164 := Tryz.sizeOf156
  v164 := Tryz.zeroValue156 }
theorem Tryz.Builder_Extra_156 : Builder.Extra Tryz.prog Tryz.lays156_ren := {
  sizeBuilder := by kernel_rfl
  liesBuilder := by kernel_rfl
  t5 := Tryz.underlying5
  a5 := Tryz.isAgg5
  z5 := Tryz.sizeOf5
  v5 := Tryz.zeroValue5
  infoByte := by kernel_rfl
  cellsByte := by kernel_rfl
  sizeByte := by kernel_rfl
  neB5 := by decide }
open Go.RowKit in
/-- No element: the empty string; the world is as it was. (Whatever the slice's address and capacity: a nil slice too.) (LAID: no walk: one application.) -/
theorem Tryz.strings_Join_none (a : Option Addr) (c : Nat) (sep : ByteArray) (w : World) :
    Calls Tryz.prog 48 #[.slice a 0 c, .string sep] w fun e w' => e = .returned (.string ⟨#[]⟩) ∧ w' = w := Any.strings_Join_none Tryz.lays156 Tryz.Builder_Extra_156 a c sep w
open Go.RowKit in
/-- strings.Join: "Join concatenates the elements of its first argument to create a single string. The separator string sep is placed between elements in the resulting string.": HOWEVER MANY ELEMENTS. Below the heap's end the world is as it was. (LAID: no walk: one application.) -/
theorem Tryz.strings_Join (bk o c : Nat) (xs : List ByteArray) (sep : ByteArray) (w : World) (hcells : ∀ (j : Nat) x, xs[j]? = some x → w.cell? ⟨bk, o + j, none⟩ = some (.string x)) (hbk : bk < w.heap.size) (hN : xs.length ≤ 140737488355328) (hcap : xs.length ≤ c) (hlen : (Lib.join (xs.map (·.data.toList)) sep.data.toList).length ≤ 140737488355328) :
    Calls Tryz.prog 48 #[.slice (some ⟨bk, o, none⟩) xs.length c, .string sep] w fun e w' => e = .returned (.string ⟨(Lib.join (xs.map (·.data.toList)) sep.data.toList).toArray⟩) ∧ Below w.heap.size w w' := Any.strings_Join Tryz.lays156 Tryz.Builder_Extra_156 bk o c xs sep w hcells hbk hN hcap hlen
def Tryz.laysM171_ren : Go.Shelf.Ren := ⟨fun | 171 => 47 | 243 => 85 | 246 => 101 | 283 => 116 | 284 => 117 | 285 => 118 | 286 => 119 | 129 => 130 | 317 => 129 | 318 => 131 | 319 => 132 | 320 => 133 | 337 => 136 | 338 => 137 | n => n, fun | 3 => 3 | 9 => 9 | 2 => 2 | 4 => 4 | 171 => 152 | 0 => 0 | 53 => 27 | 37 => 22 | 5 => 5 | 173 => 154 | 212 => 165 | 51 => 166 | 20 => 20 | 213 => 167 | 46 => 102 | 232 => 179 | 233 => 180 | n => n, fun | 17 => 3 | 18 => 6 | 19 => 7 | n => n⟩
theorem Tryz.laysM171 : Go.Proofs.LaysM.n171 Tryz.prog Tryz.laysM171_ren := {
  mixed := by kernel_rfl
  f129 := Tryz.func130.trans (congrArg some (by kernel_rfl))
  f171 := Tryz.func47.trans (congrArg some (by kernel_rfl))
  f243 := Tryz.func85.trans (congrArg some (by kernel_rfl))
  f246 := Tryz.func101.trans (congrArg some (by kernel_rfl))
  f283 := Tryz.func116.trans (congrArg some (by kernel_rfl))
  f284 := Tryz.func117.trans (congrArg some (by kernel_rfl))
  f285 := Tryz.func118.trans (congrArg some (by kernel_rfl))
  f286 := Tryz.func119.trans (congrArg some (by kernel_rfl))
  f317 := Tryz.func129.trans (congrArg some (by kernel_rfl))
  f318 := Tryz.func131.trans (congrArg some (by kernel_rfl))
  f319 := Tryz.func132.trans (congrArg some (by kernel_rfl))
  f320 := Tryz.func133.trans (congrArg some (by kernel_rfl))
  f337 := Tryz.func136.trans (congrArg some (by kernel_rfl))
  f338 := Tryz.func137.trans (congrArg some (by kernel_rfl))
  t0 := Tryz.underlying0
  a0 := Tryz.isAgg0
  z0 := Tryz.sizeOf0
  v0 := Tryz.zeroValue0
  t2 := Tryz.underlying2
  a2 := Tryz.isAgg2
  z2 := Tryz.sizeOf2
  v2 := Tryz.zeroValue2
  t3 := Tryz.underlying3
  a3 := Tryz.isAgg3
  z3 := Tryz.sizeOf3
  v3 := Tryz.zeroValue3
  t4 := Tryz.underlying4
  a4 := Tryz.isAgg4
  z4 := Tryz.sizeOf4
  v4 := Tryz.zeroValue4
  t5 := Tryz.underlying5
  a5 := Tryz.isAgg5
  z5 := Tryz.sizeOf5
  v5 := Tryz.zeroValue5
  t9 := Tryz.underlying9
  a9 := Tryz.isAgg9
  z9 := Tryz.sizeOf9
  v9 := Tryz.zeroValue9
  t20 := Tryz.underlying20
  a20 := Tryz.isAgg20
  z20 := Tryz.sizeOf20
  v20 := Tryz.zeroValue20
  t37 := Tryz.underlying22
  a37 := Tryz.isAgg22
  z37 := Tryz.sizeOf22
  v37 := Tryz.zeroValue22
  t46 := Tryz.underlying102
  a46 := Tryz.isAgg102
  z46 := Tryz.sizeOf102
  v46 := Tryz.zeroValue102
  t51 := Tryz.underlying166
  a51 := Tryz.isAgg166
  z51 := Tryz.sizeOf166
  v51 := Tryz.zeroValue166
  t53 := Tryz.underlying27
  a53 := Tryz.isAgg27
  z53 := Tryz.sizeOf27
  v53 := Tryz.zeroValue27
  t171 := Tryz.underlying152
  a171 := Tryz.isAgg152
  z171 := Tryz.sizeOf152
  v171 := Tryz.zeroValue152
  t173 := Tryz.underlying154
  a173 := Tryz.isAgg154
  z173 := Tryz.sizeOf154
  v173 := Tryz.zeroValue154
  t212 := Tryz.underlying165
  a212 := Tryz.isAgg165
  z212 := Tryz.sizeOf165
  v212 := Tryz.zeroValue165
  t213 := Tryz.underlying167
  a213 := Tryz.isAgg167
  z213 := Tryz.sizeOf167
  t232 := Tryz.underlying179
  a232 := Tryz.isAgg179
  z232 := Tryz.sizeOf179
  v232 := Tryz.zeroValue179
  t233 := Tryz.underlying180
  a233 := Tryz.isAgg180
  z233 := Tryz.sizeOf180
  v233 := Tryz.zeroValue180
  g17 := by kernel_rfl
  g18 := by kernel_rfl
  g19 := by kernel_rfl
  i0 := by kernel_rfl
  i2 := by kernel_rfl
  i3 := by kernel_rfl
  i4 := by kernel_rfl
  i5 := by kernel_rfl
  i9 := by kernel_rfl
  i20 := by kernel_rfl
  i37 := by kernel_rfl
  i46 := by kernel_rfl
  i51 := by kernel_rfl
  i53 := by kernel_rfl
  i171 := by kernel_rfl
  i173 := by kernel_rfl
  i212 := by kernel_rfl
  i232 := by kernel_rfl
  i233 := by kernel_rfl
  m17 := by kernel_rfl
  m18 := by kernel_rfl
  m19 := by kernel_rfl }
open Go.RowKit Go.Sort Go.Lib in
/-- strconv.Itoa: "Itoa is equivalent to FormatInt(int64(i), 10).": i's DECIMAL NUMERAL ('Lib.itoa': a '-' where i is negative, then the digits), FOR EVERY int. The world behind the call: the world before it, new blocks behind the heap (the library's 'var a [24]byte'), draws. (LAID: no walk: one application.) -/
theorem Tryz.strconv_Itoa (n : Int) (h0 : -9223372036854775808 ≤ n) (h1 : n ≤ 9223372036854775807) (w : World) (htab : Lib.TabIs Tryz.prog w "internal/strconv.uint64pow10" .u64 Lib.pow10Tab) :
    Calls Tryz.prog 47 #[.int .i64 n] w fun e w' => e = .returned (.string ⟨(Lib.itoa n).toArray⟩) ∧ ∃ k os, w' = grow (w.drewN k) os := Any.strconv_Itoa Tryz.laysM171 n h0 h1 w htab
def Tryz.laysPu14_ren : Go.Shelf.Ren := ⟨fun | 14 => 82 | 16 => 99 | 17 => 100 | 19 => 110 | 20 => 111 | 21 => 112 | 22 => 113 | 23 => 114 | 24 => 115 | 25 => 127 | 27 => 47 | 26 => 128 | 28 => 85 | 29 => 101 | 30 => 116 | 31 => 117 | 32 => 118 | 33 => 119 | 35 => 130 | 34 => 129 | 36 => 131 | 37 => 132 | 38 => 133 | 39 => 136 | 40 => 137 | n => n, fun | 9 => 9 | 3 => 3 | 22 => 27 | 24 => 114 | 25 => 115 | 4 => 4 | 34 => 146 | 5 => 5 | 36 => 102 | 37 => 22 | 0 => 0 | 39 => 149 | 21 => 21 | 44 => 162 | 47 => 137 | 50 => 177 | 48 => 175 | 2 => 2 | 52 => 152 | 55 => 154 | 59 => 165 | 60 => 166 | 20 => 20 | 61 => 167 | 65 => 179 | 66 => 180 | 67 => 125 | n => n, fun | 0 => 1 | 1 => 2 | 2 => 3 | 3 => 6 | 4 => 7 | n => n⟩
theorem Tryz.laysPu14 : Go.Proofs.LaysPu.n14 Tryz.prog Tryz.laysPu14_ren := {
  mixed := by kernel_rfl
  f14 := Tryz.func82.trans (congrArg some (by kernel_rfl))
  f16 := Tryz.func99.trans (congrArg some (by kernel_rfl))
  f17 := Tryz.func100.trans (congrArg some (by kernel_rfl))
  f19 := Tryz.func110.trans (congrArg some (by kernel_rfl))
  f20 := Tryz.func111.trans (congrArg some (by kernel_rfl))
  f21 := Tryz.func112.trans (congrArg some (by kernel_rfl))
  f22 := Tryz.func113.trans (congrArg some (by kernel_rfl))
  f23 := Tryz.func114.trans (congrArg some (by kernel_rfl))
  f24 := Tryz.func115.trans (congrArg some (by kernel_rfl))
  f25 := Tryz.func127.trans (congrArg some (by kernel_rfl))
  f26 := Tryz.func128.trans (congrArg some (by kernel_rfl))
  f27 := Tryz.func47.trans (congrArg some (by kernel_rfl))
  f28 := Tryz.func85.trans (congrArg some (by kernel_rfl))
  f29 := Tryz.func101.trans (congrArg some (by kernel_rfl))
  f30 := Tryz.func116.trans (congrArg some (by kernel_rfl))
  f31 := Tryz.func117.trans (congrArg some (by kernel_rfl))
  f32 := Tryz.func118.trans (congrArg some (by kernel_rfl))
  f33 := Tryz.func119.trans (congrArg some (by kernel_rfl))
  f34 := Tryz.func129.trans (congrArg some (by kernel_rfl))
  f35 := Tryz.func130.trans (congrArg some (by kernel_rfl))
  f36 := Tryz.func131.trans (congrArg some (by kernel_rfl))
  f37 := Tryz.func132.trans (congrArg some (by kernel_rfl))
  f38 := Tryz.func133.trans (congrArg some (by kernel_rfl))
  f39 := Tryz.func136.trans (congrArg some (by kernel_rfl))
  f40 := Tryz.func137.trans (congrArg some (by kernel_rfl))
  t0 := Tryz.underlying0
  a0 := Tryz.isAgg0
  z0 := Tryz.sizeOf0
  v0 := Tryz.zeroValue0
  i0 := by kernel_rfl
  t2 := Tryz.underlying2
  a2 := Tryz.isAgg2
  z2 := Tryz.sizeOf2
  v2 := Tryz.zeroValue2
  i2 := by kernel_rfl
  t3 := Tryz.underlying3
  a3 := Tryz.isAgg3
  z3 := Tryz.sizeOf3
  v3 := Tryz.zeroValue3
  i3 := by kernel_rfl
  t4 := Tryz.underlying4
  a4 := Tryz.isAgg4
  z4 := Tryz.sizeOf4
  v4 := Tryz.zeroValue4
  i4 := by kernel_rfl
  t5 := Tryz.underlying5
  a5 := Tryz.isAgg5
  z5 := Tryz.sizeOf5
  v5 := Tryz.zeroValue5
  i5 := by kernel_rfl
  t9 := Tryz.underlying9
  a9 := Tryz.isAgg9
  z9 := Tryz.sizeOf9
  v9 := Tryz.zeroValue9
  i9 := by kernel_rfl
  t20 := Tryz.underlying20
  a20 := Tryz.isAgg20
  z20 := Tryz.sizeOf20
  v20 := Tryz.zeroValue20
  i20 := by kernel_rfl
  t21 := Tryz.underlying21
  a21 := Tryz.isAgg21
  z21 := Tryz.sizeOf21
  v21 := Tryz.zeroValue21
  i21 := by kernel_rfl
  t22 := Tryz.underlying27
  a22 := Tryz.isAgg27
  z22 := Tryz.sizeOf27
  v22 := Tryz.zeroValue27
  i22 := by kernel_rfl
  t24 := Tryz.underlying114
  a24 := Tryz.isAgg114
  z24 := Tryz.sizeOf114
  v24 := Tryz.zeroValue114
  i24 := by kernel_rfl
  t25 := Tryz.underlying115
  a25 := Tryz.isAgg115
  z25 := Tryz.sizeOf115
  v25 := Tryz.zeroValue115
  i25 := by kernel_rfl
  t34 := Tryz.underlying146
  a34 := Tryz.isAgg146
  z34 := Tryz.sizeOf146
  v34 := Tryz.zeroValue146
  i34 := by kernel_rfl
  c34 := by kernel_rfl
  t36 := Tryz.underlying102
  a36 := Tryz.isAgg102
  z36 := Tryz.sizeOf102
  v36 := Tryz.zeroValue102
  i36 := by kernel_rfl
  t37 := Tryz.underlying22
  a37 := Tryz.isAgg22
  z37 := Tryz.sizeOf22
  v37 := Tryz.zeroValue22
  i37 := by kernel_rfl
  t39 := Tryz.underlying149
  a39 := Tryz.isAgg149
  z39 := Tryz.sizeOf149
  v39 := Tryz.zeroValue149
  i39 := by kernel_rfl
  t44 := Tryz.underlying162
  a44 := Tryz.isAgg162
  z44 := Tryz.sizeOf162
  v44 := Tryz.zeroValue162
  i44 := by kernel_rfl
  t47 := Tryz.underlying137
  a47 := Tryz.isAgg137
  z47 := Tryz.sizeOf137
  v47 := Tryz.zeroValue137
  i47 := by kernel_rfl
  t48 := Tryz.underlying175
  a48 := Tryz.isAgg175
  z48 := Tryz.sizeOf175
  v48 := Tryz.zeroValue175
  i48 := by kernel_rfl
  t50 := Tryz.underlying177
  a50 := Tryz.isAgg177
  z50 := Tryz.sizeOf177
  v50 := Tryz.zeroValue177
  i50 := by kernel_rfl
  t52 := Tryz.underlying152
  a52 := Tryz.isAgg152
  z52 := Tryz.sizeOf152
  v52 := Tryz.zeroValue152
  i52 := by kernel_rfl
  t55 := Tryz.underlying154
  a55 := Tryz.isAgg154
  z55 := Tryz.sizeOf154
  v55 := Tryz.zeroValue154
  i55 := by kernel_rfl
  t59 := Tryz.underlying165
  a59 := Tryz.isAgg165
  z59 := Tryz.sizeOf165
  v59 := Tryz.zeroValue165
  i59 := by kernel_rfl
  t60 := Tryz.underlying166
  a60 := Tryz.isAgg166
  z60 := Tryz.sizeOf166
  v60 := Tryz.zeroValue166
  i60 := by kernel_rfl
  t61 := Tryz.underlying167
  a61 := Tryz.isAgg167
  z61 := Tryz.sizeOf167
  t65 := Tryz.underlying179
  a65 := Tryz.isAgg179
  z65 := Tryz.sizeOf179
  v65 := Tryz.zeroValue179
  i65 := by kernel_rfl
  t66 := Tryz.underlying180
  a66 := Tryz.isAgg180
  z66 := Tryz.sizeOf180
  v66 := Tryz.zeroValue180
  i66 := by kernel_rfl
  t67 := Tryz.underlying125
  a67 := Tryz.isAgg125
  z67 := Tryz.sizeOf125
  v67 := Tryz.zeroValue125
  i67 := by kernel_rfl
  g0 := by kernel_rfl
  m0 := by kernel_rfl
  g1 := by kernel_rfl
  m1 := by kernel_rfl
  g2 := by kernel_rfl
  m2 := by kernel_rfl
  g3 := by kernel_rfl
  m3 := by kernel_rfl
  g4 := by kernel_rfl
  m4 := by kernel_rfl }
def Tryz.lays146_ren : Go.Shelf.Ren := ⟨fun | 146 => 42 | 221 => 81 | 268 => 96 | 138 => 97 | 143 => 98 | 195 => 106 | 197 => 107 | 218 => 108 | 219 => 109 | 260 => 122 | 217 => 123 | 225 => 124 | 224 => 125 | 267 => 126 | 266 => 134 | 314 => 135 | n => n, fun | 9 => 9 | 31 => 69 | 3 => 3 | 4 => 4 | 0 => 0 | 105 => 143 | 21 => 21 | 5 => 5 | 46 => 102 | 119 => 169 | 139 => 172 | 138 => 171 | 146 => 173 | 51 => 166 | n => n, fun | 1 => 0 | 3 => 4 | 4 => 5 | n => n⟩
theorem Tryz.lays146 : Go.Proofs.Lays.n146 Tryz.prog Tryz.lays146_ren := {
  mixed := by kernel_rfl
  f138 := Tryz.func97.trans (congrArg some (by kernel_rfl))
  f143 := Tryz.func98.trans (congrArg some (by kernel_rfl))
  f146 := Tryz.func42.trans (congrArg some (by kernel_rfl))
  f195 := Tryz.func106.trans (congrArg some (by kernel_rfl))
  f197 := Tryz.func107.trans (congrArg some (by kernel_rfl))
  f217 := Tryz.func123.trans (congrArg some (by kernel_rfl))
  f218 := Tryz.func108.trans (congrArg some (by kernel_rfl))
  f219 := Tryz.func109.trans (congrArg some (by kernel_rfl))
  f221 := Tryz.func81.trans (congrArg some (by kernel_rfl))
  f224 := Tryz.func125.trans (congrArg some (by kernel_rfl))
  f225 := Tryz.func124.trans (congrArg some (by kernel_rfl))
  f260 := Tryz.func122.trans (congrArg some (by kernel_rfl))
  f266 := Tryz.func134.trans (congrArg some (by kernel_rfl))
  f267 := Tryz.func126.trans (congrArg some (by kernel_rfl))
  f268 := Tryz.func96.trans (congrArg some (by kernel_rfl))
  f314 := Tryz.func135.trans (congrArg some (by kernel_rfl))
  t0 := Tryz.underlying0
  a0 := Tryz.isAgg0
  z0 := Tryz.sizeOf0
  v0 := Tryz.zeroValue0
  t3 := Tryz.underlying3
  a3 := Tryz.isAgg3
  z3 := Tryz.sizeOf3
  v3 := Tryz.zeroValue3
  t4 := Tryz.underlying4
  a4 := Tryz.isAgg4
  z4 := Tryz.sizeOf4
  v4 := Tryz.zeroValue4
  t5 := Tryz.underlying5
  a5 := Tryz.isAgg5
  z5 := Tryz.sizeOf5
  v5 := Tryz.zeroValue5
  t9 := Tryz.underlying9
  a9 := Tryz.isAgg9
  z9 := Tryz.sizeOf9
  v9 := Tryz.zeroValue9
  t21 := Tryz.underlying21
  a21 := Tryz.isAgg21
  z21 := Tryz.sizeOf21
  v21 := Tryz.zeroValue21
  t31 := Tryz.underlying69
  a31 := Tryz.isAgg69
  z31 := Tryz.sizeOf69
  v31 := Tryz.zeroValue69
  t46 := Tryz.underlying102
  a46 := Tryz.isAgg102
  z46 := Tryz.sizeOf102
  v46 := Tryz.zeroValue102
  t51 := Tryz.underlying166
  a51 := Tryz.isAgg166
  z51 := Tryz.sizeOf166
  v51 := Tryz.zeroValue166
  t105 := Tryz.underlying143
  a105 := Tryz.isAgg143
  z105 := Tryz.sizeOf143
  v105 := Tryz.zeroValue143
  t119 := Tryz.underlying169
  a119 := Tryz.isAgg169
  z119 := Tryz.sizeOf169
  t138 := Tryz.underlying171
  a138 := Tryz.isAgg171
  z138 := Tryz.sizeOf171
  v138 := Tryz.zeroValue171
  t139 := Tryz.underlying172
  a139 := Tryz.isAgg172
  z139 := Tryz.sizeOf172
  v139 := Tryz.zeroValue172
  t146 := Tryz.underlying173
  a146 := Tryz.isAgg173
  z146 := Tryz.sizeOf173
  v146 := Tryz.zeroValue173
  g1 := by kernel_rfl
  g3 := by kernel_rfl
  g4 := by kernel_rfl }
open Go.RowKit Go.Lib in
/-- strings.Split. (LAID: no walk: one application.) -/
theorem Tryz.strings_Split (s sep : ByteArray) (m : Int) (w : World) (hs : s.size < 4294967281) (hm : w.cell? ⟨0, 0, none⟩ = some (.int .i64 m)) (h1 : 1 ≤ sep.size) :
    Calls Tryz.prog 42 #[.string s, .string sep] w fun e w' =>
      e = .returned (.slice (some ⟨w.heap.size, 0, none⟩) (Lib.countB s sep + 1) (Lib.countB s sep + 1)) ∧ w' = w.alloc (.cells ((Lib.splitB sep 0 (Lib.countB s sep) s).map Value.string).toArray 9) := Any.strings_Split Tryz.lays146 (by kernel_rfl) s sep m w hs hm h1
end Go.Proofs

/- What these functions of the program hand back, each proved by walking its operations. -/
set_option linter.unusedVariables false
set_option linter.unusedSimpArgs false
set_option maxRecDepth 4000
namespace Go.Proofs.YtdgfalhfmboalaaGreatDoor
open Go Go.Sx Go.RowKit Go.W Go.Proofs
attribute [local irreducible] Ex ExL ExD Op1 Free RetQ MutQ Reads CellO SegO LoadsAs
theorem e_42 : Enters Tryz.prog 42 := Enters.of Tryz.func42 rfl
theorem c_Split (t : List UInt8) (c : UInt8) (hl : t.length ≤ 1048576) : Ret Tryz.prog 42 [sv t, sv [c]] (fun w => RdO 0 1 2 w) (fun x : Nat => .slice (some ⟨x, 0, none⟩) (splitA c [] t).length (splitA c [] t).length) (fun x => [.row (.slice (some ⟨x, 0, none⟩) (splitA c [] t).length (splitA c [] t).length) 9 1 (splitA c [] t).length ((splitA c [] t).flatMap eSt)]) (fun _ => True) := by
  refine ⟨e_42, fun w hr => ?_⟩
  obtain ⟨m, hm⟩ := hr.max
  have hz : (mkB t).size = t.length := rfl
  refine (Go.Proofs.Tryz.strings_Split (mkB t) (mkB [c]) m w (by omega) hm (by show 1 ≤ 1; decide)).mono ?_
  rintro e w' ⟨rfl, rfl⟩
  obtain ⟨h1, h2⟩ := split_row (T := 9) (w := w) c t (by omega)
  exact ⟨w.heap.size, trivial, congrArg _ h1, below_alloc _ _, by simpa using h2, by simp⟩
end Go.Proofs.YtdgfalhfmboalaaGreatDoor

/- What these functions of the program hand back, each proved by walking its operations. -/
set_option linter.unusedVariables false
set_option linter.unusedSimpArgs false
set_option maxRecDepth 4000
namespace Go.Proofs.YtdgfalhfmboalaaGreatDoor
open Go Go.Sx Go.RowKit Go.W Go.Proofs
attribute [local irreducible] Ex ExL ExD Op1 Free RetQ MutQ Reads CellO SegO LoadsAs
theorem e_82 : Enters Tryz.prog 82 := Enters.of Tryz.func82 rfl
theorem c_ParseUint (t : List UInt8) (hl : t.length ≤ 1048576) : Ret Tryz.prog 82 [sv t, .int .i64 10, .int .i64 7] (fun w => RdO 0 1 2 w) (fun x : Int × Bool × TypeId × Value => .tuple #[.int .u64 x.1, errV x.2.1 x.2.2.1 x.2.2.2]) (fun _ => []) (fun x => PUint t x.1 x.2.1) := by
  refine ⟨e_82, fun w hr => ?_⟩
  have hz : (mkB t).size = t.length := rfl
  cases h : Lib.parseUintB 7 t with
  | ok u =>
    refine (Go.U7.u7_ok Go.Proofs.Tryz.laysPu14 (mkB t) (by omega) u h w).mono ?_
    rintro e w' ⟨rfl, hw⟩
    refine ⟨((u : Int), true, 0, .nilIface), puint_ok h, rfl, ?_, by simp, List.Pairwise.nil⟩
    rcases hw with rfl | rfl
    · exact Below.refl _ _
    · exact Lib.bytesWorld_below _ _ _
  | range =>
    obtain ⟨ev, hv, hev⟩ := hr.rng
    refine (Go.U7.u7_rng Go.Proofs.Tryz.laysPu14 (mkB t) (by omega) h ev w hv hev).mono ?_
    rintro e w' ⟨N, rfl, _, _, hb⟩
    exact ⟨(127, false, _, _), puint_no ⟨by simp, by simp⟩ (fun z e => by rw [h] at e; cases e), rfl, hb, by simp, List.Pairwise.nil⟩
  | _ =>
    obtain ⟨ev, hv, hev⟩ := hr.syn
    refine (Go.U7.u7_syn Go.Proofs.Tryz.laysPu14 (mkB t) (by omega) h ev w hv hev).mono ?_
    rintro e w' ⟨N, rfl, _, _, hb⟩
    exact ⟨(0, false, _, _), puint_no ⟨by simp, by simp⟩ (fun z e => by rw [h] at e; cases e), rfl, hb, by simp, List.Pairwise.nil⟩
end Go.Proofs.YtdgfalhfmboalaaGreatDoor

/- What these functions of the program hand back, each proved by walking its operations. -/
set_option linter.unusedVariables false
set_option linter.unusedSimpArgs false
set_option maxRecDepth 4000
namespace Go.Proofs.YtdgfalhfmboalaaGreatDoor
open Go Go.Sx Go.RowKit Go.W Go.Proofs
attribute [local irreducible] Ex ExL ExD Op1 Free RetQ MutQ Reads CellO SegO LoadsAs
end Go.Proofs.YtdgfalhfmboalaaGreatDoor

/- What these functions of the program hand back, each proved by walking its operations. -/
set_option linter.unusedVariables false
set_option linter.unusedSimpArgs false
set_option maxRecDepth 4000
namespace Go.Proofs.YtdgfalhfmboalaaGreatDoor
open Go Go.Sx Go.RowKit Go.W Go.Proofs
attribute [local irreducible] Ex ExL ExD Op1 Free RetQ MutQ Reads CellO SegO LoadsAs
theorem c_back1X (s : List Int) (As : Option Addr) (cs : Nat) (hls : s.length ≤ maxLen) (b base : Nat) (w0 : World) (hs : RdB base w0 As (s.flatMap (eI .u8))) : IterX Tryz.prog 83 [.pointer (some ⟨b, 0, none⟩)] base w0 (.blk b [.slice As s.length cs] 24) s.length (fun k => [.int .i64 ((s.length - 1 - k : Nat) : Int), .int .u8 (s.getD (s.length - 1 - k) 0)]) := by
  refine IterX.of e_83 Tryz.func83 rfl Tryz.ntmps83 rfl rfl (fun w1 l Sf m0 hW hY h0 => ?_)
  have hs := hs.keep hW
  have hm0 : maxLen = 9223372036854775807 := rfl
  refine Ex.regSeq (ExL.pures 0 rfl ?_)
  refine ExL.free (fr_load rfl rfl rfl rfl (CellO.blk (i := 0) rfl rfl)) rfl rfl rfl ?_
  refine ExL.pures 1 rfl ?_
  refine ExL.free (fr_sub64 rfl rfl rfl (by omega)) rfl rfl rfl ?_
  refine ExL.pures 1 rfl ?_
  refine ExL.nil ?_
  refine Ex.block ?_
  refine Ex.loopK (X := Nat × List Ent) (fun x => [(3, .int .i64 ((s.length : Int) - 1 - x.1))]) (fun x => .blk b [.slice As s.length cs] 24 :: x.2) (fun x => x.1 ≤ s.length ∧ Sf x.1 x.2) (fun x => s.length - x.1) (0, m0) [(0, _), (1, _)] [] 1 [0] ⟨agI (by simp), trivial⟩ ⟨rfl, rfl, trivial⟩ pick_box rfl ⟨Nat.zero_le _, h0⟩ (fun x hI => ?_)
  obtain ⟨hI, hS⟩ : x.1 ≤ s.length ∧ Sf x.1 x.2 := hI
  refine Ex.seq ?_
  refine Ex.regSeq (ExL.pures 1 rfl ?_)
  refine ExL.geq rfl rfl rfl rfl rfl rfl (fun h1 => ?_) (fun h1 => ?_)
  · have hk : x.1 < s.length := by omega
    have hj : (s.length : Int) - 1 - x.1 = ((s.length - 1 - x.1 : Nat) : Int) := by omega
    rw [hj]
    refine ExL.nil ?_
    refine Ex.cond_t rfl ?_
    refine Ex.skip ?_
    refine Ex.seq ?_
    refine Ex.block ?_
    refine Ex.regSeq (ExL.pures 2 rfl ?_)
    refine ExL.free (fr_load rfl rfl rfl rfl (CellO.blk (i := 0) rfl rfl)) rfl rfl rfl ?_
    refine ExL.pures 1 rfl ?_
    refine ExL.free (fr_indexAddrF (Reads.old hs) (eI_len .u8) rfl rfl rfl rfl rfl rfl (by omega)) rfl rfl rfl ?_
    refine ExL.free (fr_load rfl rfl rfl rfl (cellN (Reads.old hs) (eI_len .u8) 0 0 rfl (by omega) rfl)) rfl rfl rfl ?_
    refine ExL.yieldX rfl rfl rfl rfl rfl rfl (fun w hw => hY x.1 w x.2 hk hS (by simpa using hw)) ?_
    rintro _ ⟨mk, hS2, rfl⟩
    refine ExL.pures 1 rfl ?_
    refine ExL.nil ?_
    refine Ex.cond_f rfl ?_
    refine Ex.skip ?_
    refine Ex.region (ExL.pures 1 rfl ?_)
    refine ExL.free (fr_sub64 rfl rfl rfl (by omega)) rfl rfl rfl ?_
    refine ExL.pures 1 rfl ?_
    refine ExL.nil ?_
    exact Hand.mk (x.1 + 1, mk) 1 [0] ⟨agI (by show ((s.length - 1 - x.1 : Nat) : Int) - 1 = (s.length : Int) - 1 - ((x.1 + 1 : Nat) : Int); omega), trivial⟩ ⟨rfl, rfl, trivial⟩ pick_box rfl ⟨by dsimp only; omega, hS2⟩ (by dsimp only; omega)
  · refine ExL.nil ?_
    refine Ex.cond_f rfl ?_
    refine Ex.exit ?_
    have hk : x.1 = s.length := by omega
    exact ⟨rfl, x.2, hk ▸ hS, by simp⟩
theorem e_48 : Enters Tryz.prog 48 := Enters.of Tryz.func48 rfl
theorem c_Join (xs : List (List UInt8)) (n : Nat) (hn : xs.length = n) (A : Option Addr) (c : Nat) (sep : List UInt8) (hc : n ≤ c) (hl : xs.length ≤ 140737488355328) (hj : (Lib.join xs sep).length ≤ 140737488355328) : Ret Tryz.prog 48 [.slice A n c, sv sep] (fun w => Rd w A (xs.flatMap eSt)) (fun _ : Unit => sv (Lib.join xs sep)) (fun _ => []) (fun _ => True) := by
  subst hn
  refine ⟨e_48, fun w hr => ?_⟩
  rcases Nat.eq_zero_or_pos xs.length with h | h
  · obtain rfl := List.eq_nil_of_length_eq_zero h
    exact (Go.Proofs.Tryz.strings_Join_none A c (mkB sep) w).mono (by rintro e w' ⟨rfl, rfl⟩; exact ⟨(), trivial, rfl, Below.refl _ _, by simp, List.Pairwise.nil⟩)
  · obtain ⟨bk, o, rfl, hb, hcs⟩ := join_pre hr h
    have h1 := Go.Proofs.Tryz.strings_Join bk o c (xs.map mkB) (mkB sep) w hcs hb (by simpa using hl) (by simpa using hc) (by rw [mkB_map]; exact hj)
    rw [mkB_map, List.length_map] at h1
    exact h1.mono (by rintro e w' ⟨rfl, hbl⟩; exact ⟨(), trivial, rfl, hbl, by simp, List.Pairwise.nil⟩)
end Go.Proofs.YtdgfalhfmboalaaGreatDoor

/- What these functions of the program hand back, each proved by walking its operations. -/
set_option linter.unusedVariables false
set_option linter.unusedSimpArgs false
set_option maxRecDepth 4000
namespace Go.Proofs.YtdgfalhfmboalaaGreatDoor
open Go Go.Sx Go.RowKit Go.W Go.Proofs
attribute [local irreducible] Ex ExL ExD Op1 Free RetQ MutQ Reads CellO SegO LoadsAs
end Go.Proofs.YtdgfalhfmboalaaGreatDoor

/- What these functions of the program hand back, each proved by walking its operations. -/
set_option linter.unusedVariables false
set_option linter.unusedSimpArgs false
set_option maxRecDepth 4000
namespace Go.Proofs.YtdgfalhfmboalaaGreatDoor
open Go Go.Sx Go.RowKit Go.W Go.Proofs
attribute [local irreducible] Ex ExL ExD Op1 Free RetQ MutQ Reads CellO SegO LoadsAs
end Go.Proofs.YtdgfalhfmboalaaGreatDoor

/- What these functions of the program hand back, each proved by walking its operations. -/
set_option linter.unusedVariables false
set_option linter.unusedSimpArgs false
set_option maxRecDepth 4000
namespace Go.Proofs.YtdgfalhfmboalaaGreatDoor
open Go Go.Sx Go.RowKit Go.W Go.Proofs
attribute [local irreducible] Ex ExL ExD Op1 Free RetQ MutQ Reads CellO SegO LoadsAs
theorem e_5 : Enters Tryz.prog 5 := Enters.of Tryz.func5 rfl
theorem c_P6Stack (code : List Int) (Ac : Option Addr) (cc : Nat) (hcl : code.length ≤ maxLen) (hcu : Nums 255 code) : Ret Tryz.prog 5 [.slice Ac code.length cc] (fun w => Rd w Ac (code.flatMap (eI .u8))) (fun x : (Option Addr × Nat) × List Int => .slice x.1.1 x.2.length x.1.2) (fun x => [.row (.slice x.1.1 x.2.length x.1.2) 5 1 x.2.length (x.2.flatMap (eI .u8))]) (fun x => DrStk x.2) := by
  refine Ret.of e_5 Tryz.func5 rfl Tryz.ntmps5 rfl rfl (fun w hpre => ?_)
  have hcode := hpre.base
  have hm0 : maxLen = 9223372036854775807 := rfl
  refine Ex.regSeq (ExL.pures 1 rfl ?_)
  refine ExL.nil ?_
  refine Ex.regSeq (ExL.pures 1 rfl ?_)
  refine ExL.op rfl (op_ret rfl rfl rfl (c_l00From code _ _) (fun _ _ => trivial) rfl rfl (fun x1 hx1 => ?_))
  refine ExL.op rfl (op_mut rfl rfl rfl (c_l01Drawn code _ _ (by omega) (by assumption) _ 0 _ (by omega)) (perm_at (i := 0) rfl) (hcode) rfl rfl (fun x2 hx2 => ?_))
  obtain ⟨hSx2, hqx2⟩ := hx2
  have hux2 := hSx2.nums
  have hvx2 := hSx2.valid
  have hzx2 := hSx2.size
  have hlx2 := hSx2.2
  refine ExL.pures 1 rfl ?_
  refine ExL.nil ?_
  refine Ex.ret ?_
  refine RetQ.mk ((x2.2.1.1, x2.2.1.2), x2.2.2) rfl (.tmp rfl .nil) (rfl) [1] (rfl) rfl ((by assumption : DrStk _))
theorem e_6 : Enters Tryz.prog 6 := Enters.of Tryz.func6 rfl
theorem c_P6Value (code : List Int) (Ac : Option Addr) (cc : Nat) (hcl : code.length ≤ maxLen) (hcu : Nums 255 code) (s : List Int) (hv : validStack s = true) (hu : Nums 255 s) (As : Option Addr) (cs : Nat) : Ret Tryz.prog 6 [.slice Ac code.length cc, .slice As s.length cs] (fun w => Rd w Ac (code.flatMap (eI .u8)) ∧ Rd w As (s.flatMap (eI .u8))) (fun x : Int => .int .i64 x) (fun x => []) (fun x => 0 ≤ x ∧ x < size s) := by
  refine Ret.of e_6 Tryz.func6 rfl Tryz.ntmps6 rfl rfl (fun w hpre => ?_)
  have hcode := hpre.1.base
  have hs := hpre.2.base
  have hS := stk hv
  have h8 := hS.len8
  have hz1 := hS.size_
  have hz2 := hS.le
  have hz3 := hS.pos
  have hm1 := fun z => Int.emod_nonneg z (show size s ≠ 0 by omega)
  have hm2 := fun z => Int.emod_lt_of_pos z (show 0 < size s by omega)
  have hm0 : maxLen = 9223372036854775807 := rfl
  refine Ex.regSeq (ExL.pures 1 rfl ?_)
  refine ExL.nil ?_
  refine Ex.regSeq (ExL.pures 1 rfl ?_)
  refine ExL.op rfl (op_ret rfl rfl rfl (c_l00From code _ _) (fun _ _ => trivial) rfl rfl (fun x1 hx1 => ?_))
  refine ExL.pures 1 rfl ?_
  refine ExL.nil ?_
  refine Ex.seq ?_
  refine Ex.regSeq (ExL.pures 1 rfl ?_)
  refine ExL.op rfl (op_mut rfl rfl rfl (c_one code _ _ (by omega) (by assumption) _ 0 _ (by omega) 4 (by omega)) (perm_at (i := 0) rfl) (hcode) rfl rfl (fun x2 hx2 => ?_))
  refine ExL.nil ?_
  refine Ex.cond rfl (fun hb3 => ?_) (fun hb3 => ?_)
  · refine Ex.regSeq (ExL.pures 1 rfl ?_)
    refine ExL.op rfl (op_ret rfl rfl rfl (c_l01Size _ (by assumption) _ _ (by first | assumption | omega | (unfold maxLen; omega))) (Reads.get (Reads.old hs)) rfl rfl (fun x4 hx4 => ?_))
    refine ExL.free (by first | exact fr_sub64 rfl rfl rfl (by omega) | exact fr_sub rfl rfl rfl) rfl rfl rfl ?_
    refine ExL.pures 1 rfl ?_
    refine ExL.nil ?_
    refine Ex.ret ?_
    refine RetQ.mk _ rfl (.tmp rfl .nil) (rfl) [] (rfl) rfl (by first | exact ⟨hm1 _, hm2 _⟩ | (constructor <;> omega))
  · refine Ex.skip ?_
    refine Ex.regSeq (ExL.pures 1 rfl ?_)
    refine ExL.op rfl (op_mut rfl rfl rfl (c_pick code _ _ (by omega) (by assumption) _ x2.2.1 _ (by omega) 1073741824 (by omega)) (perm_at (i := 0) rfl) (hcode) rfl rfl (fun x5 hx5 => ?_))
    refine ExL.pures 1 rfl ?_
    refine ExL.op rfl (op_ret rfl rfl rfl (c_l01Size _ (by assumption) _ _ (by first | assumption | omega | (unfold maxLen; omega))) (Reads.get (Reads.old hs)) rfl rfl (fun x6 hx6 => ?_))
    refine ExL.free (by first | exact fr_remP rfl rfl rfl (by omega) | exact fr_rem rfl rfl rfl (by omega)) rfl rfl rfl ?_
    refine ExL.pures 1 rfl ?_
    refine ExL.nil ?_
    refine Ex.ret ?_
    refine RetQ.mk _ rfl (.tmp rfl .nil) (rfl) [] (rfl) rfl (by first | exact ⟨hm1 _, hm2 _⟩ | (constructor <;> omega))
theorem e_8 : Enters Tryz.prog 8 := Enters.of Tryz.func8 rfl
theorem c_DigitsOf (s : List Int) (hv : validStack s = true) (hu : Nums 255 s) (As : Option Addr) (cs : Nat) (v : Int) (hv0 : 0 ≤ v ∧ v < size s) : Ret Tryz.prog 8 [.slice As s.length cs, .int .i64 v] (fun w => Rd w As (s.flatMap (eI .u8))) (fun x : Unit => .tuple #[.agg (encD (dig (digs s v))).toArray, .int .i64 0]) (fun x => []) (fun x => True) := by
  refine Ret.of e_8 Tryz.func8 rfl Tryz.ntmps8 rfl rfl (fun w hpre => ?_)
  have hs := hpre.base
  have hS := stk hv
  have h8 := hS.len8
  have hz1 := hS.size_
  have hz2 := hS.le
  have hm0 : maxLen = 9223372036854775807 := rfl
  refine Ex.regSeq (ExL.pures 0 rfl ?_)
  refine ExL.op rfl (op_alloc rfl rfl rfl rfl rfl (fun b1 => ?_))
  refine ExL.pures 1 rfl ?_
  refine ExL.nil ?_
  refine Ex.seq ?_
  refine Ex.regSeq (ExL.pures 1 rfl ?_)
  refine ExL.op rfl (op_ret rfl rfl rfl (c_l01Ok _ (by assumption) _ _ (by first | assumption | omega | (unfold maxLen; omega))) (Reads.get (Reads.old hs)) rfl rfl (fun x2 hx2 => ?_))
  refine ExL.pures 1 rfl ?_
  refine ExL.nil ?_
  refine Ex.cond rfl (fun hb3 => ?_) (fun hb3 => ?_)
  · replace hb3 := nb_t hb3
    refine Ex.regSeq (ExL.pures 0 rfl ?_)
    refine ExL.free (fr_build rfl rfl rfl rfl) rfl rfl rfl ?_
    refine ExL.op rfl (op_storeC (i := 0) rfl rfl rfl rfl rfl rfl rfl rfl rfl rfl ?_)
    refine ExL.pures 1 rfl ?_
    refine ExL.nil ?_
    refine Ex.ret ?_
    refine RetQ.mk () rfl (.cell rfl (.many rfl rfl rfl (SegO.whole (i := 0) rfl)) (.tmp rfl .nil)) (t2 (by first | rfl | (exfalso; simp_all; done) | (exfalso; omega)) (by first | rfl | (exfalso; simp_all; done) | (exfalso; omega))) [] (rfl) rfl (trivial)
  · replace hb3 := nb_f hb3
    refine Ex.skip ?_
    refine Ex.seq ?_
    refine Ex.regSeq (ExL.pures 2 rfl ?_)
    refine ExL.op rfl (op_ret rfl rfl rfl (c_l01Size _ (by assumption) _ _ (by first | assumption | omega | (unfold maxLen; omega))) (Reads.get (Reads.old hs)) rfl rfl (fun x4 hx4 => ?_))
    refine ExL.free (by first | exact fr_sub64 rfl rfl rfl (by omega) | exact fr_sub rfl rfl rfl) rfl rfl rfl ?_
    refine ExL.op rfl (op_ret rfl rfl rfl (c_l00In _ _ _) (fun _ _ => trivial) rfl rfl (fun x5 hx5 => ?_))
    refine ExL.pures 1 rfl ?_
    refine ExL.nil ?_
    refine Ex.cond rfl (fun hb6 => ?_) (fun hb6 => ?_)
    · replace hb6 := nd_t hb6
      refine Ex.regSeq (ExL.pures 0 rfl ?_)
      refine ExL.free (fr_build rfl rfl rfl rfl) rfl rfl rfl ?_
      refine ExL.op rfl (op_storeC (i := 0) rfl rfl rfl rfl rfl rfl rfl rfl rfl rfl ?_)
      refine ExL.pures 1 rfl ?_
      refine ExL.nil ?_
      refine Ex.ret ?_
      refine RetQ.mk () rfl (.cell rfl (.many rfl rfl rfl (SegO.whole (i := 0) rfl)) (.tmp rfl .nil)) (t2 (by first | rfl | (exfalso; simp_all; done) | (exfalso; omega)) (by first | rfl | (exfalso; simp_all; done) | (exfalso; omega))) [] (rfl) rfl (trivial)
    · replace hb6 := nd_f hb6
      refine Ex.skip ?_
      refine Ex.regSeq (ExL.pures 2 rfl ?_)
      refine ExL.op rfl (op_ret rfl rfl rfl (c_l01Of s (by first | assumption | simp_all) _ _ _ (by omega)) (Reads.get (Reads.old hs)) rfl rfl (fun x7 hx7 => ?_))
      refine ExL.op rfl (op_storeC (i := 0) rfl rfl rfl rfl rfl rfl rfl rfl rfl rfl ?_)
      refine ExL.pures 1 rfl ?_
      refine ExL.nil ?_
      refine Ex.ret ?_
      refine RetQ.mk () rfl (.cell rfl (.many rfl rfl rfl (SegO.whole (i := 0) rfl)) (.tmp rfl .nil)) (t2 (by first | rfl | (exfalso; simp_all; done) | (exfalso; omega)) (by first | rfl | (exfalso; simp_all; done) | (exfalso; omega))) [] (rfl) rfl (trivial)
theorem e_94 : Enters Tryz.prog 94 := Enters.of Tryz.func94 rfl
theorem c_hasWheel (s : List Int) (As : Option Addr) (cs : Nat) (hls : s.length ≤ maxLen) (k : Nat) (hk : k < s.length) : Ret Tryz.prog 94 [.slice As s.length cs, .int .i64 (k : Int)] (fun w => Rd w As (s.flatMap (eI .u8))) (fun x : Unit => .bool true) (fun x => []) (fun x => True) := by
  refine Ret.of e_94 Tryz.func94 rfl Tryz.ntmps94 rfl rfl (fun w hpre => ?_)
  have hs := hpre.base
  have hm0 : maxLen = 9223372036854775807 := rfl
  refine Ex.regSeq (ExL.pures 1 rfl ?_)
  refine ExL.nil ?_
  refine Ex.regSeq (ExL.pures 2 rfl ?_)
  refine ExL.op rfl (op_ret rfl rfl rfl (c_wheels _ _ _) (fun _ _ => trivial) rfl rfl (fun x1 hx1 => ?_))
  refine ExL.free (by first | exact fr_sub64 rfl rfl rfl (by omega) | exact fr_sub rfl rfl rfl) rfl rfl rfl ?_
  refine ExL.op rfl (op_ret rfl rfl rfl (c_within _ _ _) (fun _ _ => trivial) rfl rfl (fun x2 hx2 => ?_))
  refine ExL.pures 1 rfl ?_
  refine ExL.nil ?_
  refine Ex.ret ?_
  refine RetQ.mk () rfl (.tmp rfl .nil) (tB (by simp; omega)) [] (rfl) rfl (trivial)
end Go.Proofs.YtdgfalhfmboalaaGreatDoor

/- What these functions of the program hand back, each proved by walking its operations. -/
set_option linter.unusedVariables false
set_option linter.unusedSimpArgs false
set_option maxRecDepth 4000
namespace Go.Proofs.YtdgfalhfmboalaaGreatDoor
open Go Go.Sx Go.RowKit Go.W Go.Proofs
attribute [local irreducible] Ex ExL ExD Op1 Free RetQ MutQ Reads CellO SegO LoadsAs
theorem e_12 : Enters Tryz.prog 12 := Enters.of Tryz.func12 rfl
theorem c_iChoices (s : List Int) (hu : Nums 255 s) (As : Option Addr) (cs : Nat) (hls : s.length ≤ maxLen) (p : VPh) (hp : OkPh p) (hvp : validPh s p = true) : Ret Tryz.prog 12 [.slice As s.length cs, .agg (encPh p).toArray] (fun w => Rd w As (s.flatMap (eI .u8))) (fun x : Unit => .tuple #[.int .i64 (choV p.l s.length), .int .i64 0]) (fun x => []) (fun x => True) := by
  refine Ret.of e_12 Tryz.func12 rfl Tryz.ntmps12 rfl rfl (fun w hpre => ?_)
  have hs := hpre.base
  have hm0 : maxLen = 9223372036854775807 := rfl
  refine Ex.regSeq (ExL.pures 0 rfl ?_)
  refine ExL.op rfl (op_box rfl rfl rfl rfl rfl (fun b1 => ?_))
  refine ExL.pures 2 rfl ?_
  refine ExL.nil ?_
  refine Ex.seq ?_
  refine Ex.regSeq (ExL.pures 1 rfl ?_)
  refine ExL.free (fr_loadN rfl rfl rfl rfl rfl (SegO.whole (i := 0) rfl)) rfl rfl rfl ?_
  refine ExL.op rfl (op_ret rfl rfl rfl (c_iValidPhoto s (by assumption) _ _ (by omega) p hp) (Reads.get (Reads.old hs)) rfl rfl (fun x2 hx2 => ?_))
  refine ExL.pures 1 rfl ?_
  refine ExL.nil ?_
  refine Ex.cond rfl (fun hb3 => ?_) (fun hb3 => ?_)
  · replace hb3 := nb_t hb3
    refine Ex.regSeq (ExL.pures 2 rfl ?_)
    refine ExL.nil ?_
    refine Ex.ret ?_
    refine RetQ.mk () rfl (.tmp rfl (.tmp rfl .nil)) ((by first | exact t2 rfl rfl | (exfalso; simp_all; done))) [] (rfl) rfl (trivial)
  · replace hb3 := nb_f hb3
    refine Ex.skip ?_
    obtain ⟨hv, hS, hP⟩ := vph hp (by assumption)
    have h8 := hS.len8
    have hz := hS.size_
    have hle := hS.le
    have hps := hS.pos
    refine Ex.regSeq (ExL.pures 2 rfl ?_)
    refine ExL.op rfl (op_ret rfl rfl rfl (c_choices s (by first | assumption | exact stk (by assumption)) p (by assumption) hp _ _ s.length (by omega)) (Reads.get (Reads.blk (i := 0) rfl)) rfl rfl (fun x4 hx4 => ?_))
    refine ExL.pures 2 rfl ?_
    refine ExL.nil ?_
    refine Ex.ret ?_
    refine RetQ.mk () rfl (.tmp rfl (.tmp rfl .nil)) ((by first | exact t2 rfl rfl | (exfalso; simp_all; done))) [] (rfl) rfl (trivial)
theorem e_13 : Enters Tryz.prog 13 := Enters.of Tryz.func13 rfl
theorem c_sChoices (s : List Int) (hu : Nums 255 s) (As : Option Addr) (cs : Nat) (hls : s.length ≤ maxLen) (p : VPh) (hp : OkPh p) (hvp : validPh s p = true) : Ret Tryz.prog 13 [.slice As s.length cs, .agg (encPh p).toArray] (fun w => Rd w As (s.flatMap (eI .u8))) (fun x : Unit => .tuple #[.int .i64 (choV p.l s.length), .int .i64 0]) (fun x => []) (fun x => True) := by
  refine Ret.of e_13 Tryz.func13 rfl Tryz.ntmps13 rfl rfl (fun w hpre => ?_)
  have hs := hpre.base
  have hm0 : maxLen = 9223372036854775807 := rfl
  refine Ex.regSeq (ExL.pures 0 rfl ?_)
  refine ExL.op rfl (op_box rfl rfl rfl rfl rfl (fun b1 => ?_))
  refine ExL.pures 2 rfl ?_
  refine ExL.nil ?_
  refine Ex.seq ?_
  refine Ex.regSeq (ExL.pures 1 rfl ?_)
  refine ExL.free (fr_loadN rfl rfl rfl rfl rfl (SegO.whole (i := 0) rfl)) rfl rfl rfl ?_
  refine ExL.op rfl (op_ret rfl rfl rfl (c_sValidPhoto s (by assumption) _ _ (by omega) p hp) (Reads.get (Reads.old hs)) rfl rfl (fun x2 hx2 => ?_))
  refine ExL.pures 1 rfl ?_
  refine ExL.nil ?_
  refine Ex.cond rfl (fun hb3 => ?_) (fun hb3 => ?_)
  · replace hb3 := nb_t hb3
    refine Ex.regSeq (ExL.pures 2 rfl ?_)
    refine ExL.nil ?_
    refine Ex.ret ?_
    refine RetQ.mk () rfl (.tmp rfl (.tmp rfl .nil)) ((by first | exact t2 rfl rfl | (exfalso; simp_all; done))) [] (rfl) rfl (trivial)
  · replace hb3 := nb_f hb3
    refine Ex.skip ?_
    obtain ⟨hv, hS, hP⟩ := vph hp (by assumption)
    have h8 := hS.len8
    have hz := hS.size_
    have hle := hS.le
    have hps := hS.pos
    refine Ex.regSeq (ExL.pures 2 rfl ?_)
    refine ExL.op rfl (op_ret rfl rfl rfl (c_l05Choices s (by first | assumption | exact stk (by assumption)) p (by assumption) hp _ _ s.length (by omega)) (Reads.get (Reads.blk (i := 0) rfl)) rfl rfl (fun x4 hx4 => ?_))
    refine ExL.pures 2 rfl ?_
    refine ExL.nil ?_
    refine Ex.ret ?_
    refine RetQ.mk () rfl (.tmp rfl (.tmp rfl .nil)) ((by first | exact t2 rfl rfl | (exfalso; simp_all; done))) [] (rfl) rfl (trivial)
theorem e_20 : Enters Tryz.prog 20 := Enters.of Tryz.func20 rfl
theorem c_iLeastIn (s : List Int) (hu : Nums 255 s) (As : Option Addr) (cs : Nat) (hls : s.length ≤ maxLen) (p : VPh) (hp : OkPh p) (hvp : validPh s p = true) : Ret Tryz.prog 20 [.slice As s.length cs, .agg (encPh p).toArray] (fun w => Rd w As (s.flatMap (eI .u8))) (fun x : Unit => .tuple #[.int .i64 ((valsP s p).getD 0 0), .int .i64 0]) (fun x => []) (fun x => True) := by
  refine Ret.of e_20 Tryz.func20 rfl Tryz.ntmps20 rfl rfl (fun w hpre => ?_)
  have hs := hpre.base
  have hm0 : maxLen = 9223372036854775807 := rfl
  refine Ex.regSeq (ExL.pures 0 rfl ?_)
  refine ExL.op rfl (op_box rfl rfl rfl rfl rfl (fun b1 => ?_))
  refine ExL.pures 2 rfl ?_
  refine ExL.nil ?_
  refine Ex.seq ?_
  refine Ex.regSeq (ExL.pures 1 rfl ?_)
  refine ExL.free (fr_loadN rfl rfl rfl rfl rfl (SegO.whole (i := 0) rfl)) rfl rfl rfl ?_
  refine ExL.op rfl (op_ret rfl rfl rfl (c_iValidPhoto s (by assumption) _ _ (by omega) p hp) (Reads.get (Reads.old hs)) rfl rfl (fun x2 hx2 => ?_))
  refine ExL.pures 1 rfl ?_
  refine ExL.nil ?_
  refine Ex.cond rfl (fun hb3 => ?_) (fun hb3 => ?_)
  · replace hb3 := nb_t hb3
    refine Ex.regSeq (ExL.pures 2 rfl ?_)
    refine ExL.nil ?_
    refine Ex.ret ?_
    refine RetQ.mk () rfl (.tmp rfl (.tmp rfl .nil)) ((by first | exact t2 (vI (by rw [dig_l hll]; exact hlf)) rfl | (exfalso; simp_all; done))) [] (rfl) rfl (trivial)
  · replace hb3 := nb_f hb3
    refine Ex.skip ?_
    obtain ⟨hv, hS, hP⟩ := vph hp (by assumption)
    have h8 := hS.len8
    have hz := hS.size_
    have hle := hS.le
    have hps := hS.pos
    have hlf := least_fst (d := zDig.l) hS hP
    have hll := leastD_len p.l zDig.l s.length
    have hlo : DigOk s (leastD p.l zDig.l s.length) := fun j hj => by have h1 := from_some (hP.some_ j hj); have h2 := hP.lt j hj _ (by have := from_bd (p.l.getD j zMk) 0; omega) h1.2; rw [leastD_at (by omega), if_pos hj]; omega
    have hlz : ∀ j, s.length ≤ j → j < 8 → (leastD p.l zDig.l s.length).getD j 0 = 0 := fun j h1 h2 => by rw [leastD_at h2, if_neg (by omega)]; exact zDig_at0 j
    obtain ⟨hlv, hln⟩ := dig_fine h8 hS.bases hll hlo hlz
    rw [← dig_l hll] at hlv hln
    refine Ex.regSeq (ExL.pures 1 rfl ?_)
    refine ExL.free (fr_build (cells := encD zDig) rfl rfl rfl (by kernel_rfl)) rfl rfl rfl ?_
    refine ExL.pures 2 rfl ?_
    refine ExL.op rfl (op_ret rfl rfl rfl (c_least s (by first | assumption | exact stk (by assumption)) p (by assumption) hp _ _ zDig s.length (by omega)) (Reads.get (Reads.blk (i := 0) rfl)) rfl rfl (fun x4 hx4 => ?_))
    refine ExL.op rfl (op_ret rfl rfl rfl (c_value s (by first | assumption | simp_all) _ _ (dig (leastD p.l zDig.l s.length)) (by assumption) (by first | assumption | simp_all)) (Reads.get (Reads.old hs)) rfl rfl (fun x5 hx5 => ?_))
    refine ExL.pures 2 rfl ?_
    refine ExL.nil ?_
    refine Ex.ret ?_
    refine RetQ.mk () rfl (.tmp rfl (.tmp rfl .nil)) ((by first | exact t2 (vI (by rw [dig_l hll]; exact hlf)) rfl | (exfalso; simp_all; done))) [] (rfl) rfl (trivial)
theorem e_69 : Enters Tryz.prog 69 := Enters.of Tryz.func69 rfl
theorem c_hasDigitS (s : List Int) (As : Option Addr) (cs : Nat) (hls : s.length ≤ maxLen) (hl0 : 0 < s.length) (hb0 : 0 ≤ s.getD 0 0 ∧ s.getD 0 0 ≤ 255) (d : Int) (hd : 0 ≤ d ∧ d < s.getD 0 0) : Ret Tryz.prog 69 [.slice As s.length cs, .int .i64 0, .int .i64 d] (fun w => Rd w As (s.flatMap (eI .u8))) (fun x : Unit => .bool true) (fun x => []) (fun x => True) := by
  refine Ret.of e_69 Tryz.func69 rfl Tryz.ntmps69 rfl rfl (fun w hpre => ?_)
  have hs := hpre.base
  have hm0 : maxLen = 9223372036854775807 := rfl
  refine Ex.regSeq (ExL.pures 1 rfl ?_)
  refine ExL.nil ?_
  refine Ex.regSeq (ExL.pures 2 rfl ?_)
  refine ExL.op rfl (op_ret rfl rfl rfl (c_hasWheel s _ _ (by omega) 0 (by omega)) (Reads.get (Reads.old hs)) rfl rfl (fun x1 hx1 => ?_))
  refine ExL.pures 4 rfl ?_
  refine ExL.free (fr_indexAddrF (Reads.old hs) (eI_len .u8) rfl rfl rfl rfl rfl rfl (by omega)) rfl rfl rfl ?_
  refine ExL.free (fr_load rfl rfl rfl rfl (cellJ (i := 0) (0) (Reads.old hs) (eI_len .u8) 0 0 rfl (by omega) (by omega) rfl)) rfl rfl rfl ?_
  refine ExL.free (by first | exact fr_conv64 rfl rfl rfl rfl (by omega) | exact fr_conv rfl rfl rfl rfl) rfl rfl rfl ?_
  refine ExL.free (by first | exact fr_sub64 rfl rfl rfl (by omega) | exact fr_sub rfl rfl rfl) rfl rfl rfl ?_
  refine ExL.op rfl (op_ret rfl rfl rfl (c_within _ _ _) (fun _ _ => trivial) rfl rfl (fun x2 hx2 => ?_))
  refine ExL.pures 2 rfl ?_
  refine ExL.nil ?_
  refine Ex.ret ?_
  refine RetQ.mk () rfl (.tmp rfl .nil) (tB (by first | exact decide_eq_true ⟨by omega, by omega⟩ | exact dec_t ⟨by omega, by omega⟩ | rfl)) [] (rfl) rfl (trivial)
theorem e_70 : Enters Tryz.prog 70 := Enters.of Tryz.func70 rfl
theorem c_l01Wheel0 (s : List Int) (As : Option Addr) (cs : Nat) (hls : s.length ≤ maxLen) (hl0 : 0 < s.length) : Ret Tryz.prog 70 [.slice As s.length cs, .int .i64 0] (fun w => Rd w As (s.flatMap (eI .u8))) (fun x : Unit => .bool true) (fun x => []) (fun x => True) := by
  refine Ret.of e_70 Tryz.func70 rfl Tryz.ntmps70 rfl rfl (fun w hpre => ?_)
  have hs := hpre.base
  have hm0 : maxLen = 9223372036854775807 := rfl
  refine Ex.regSeq (ExL.pures 1 rfl ?_)
  refine ExL.nil ?_
  refine Ex.regSeq (ExL.pures 3 rfl ?_)
  refine ExL.free (by first | exact fr_sub64 rfl rfl rfl (by omega) | exact fr_sub rfl rfl rfl) rfl rfl rfl ?_
  refine ExL.op rfl (op_ret rfl rfl rfl (c_l00In _ _ _) (fun _ _ => trivial) rfl rfl (fun x1 hx1 => ?_))
  refine ExL.pures 1 rfl ?_
  refine ExL.nil ?_
  refine Ex.ret ?_
  refine RetQ.mk () rfl (.tmp rfl .nil) (tB (by simp; omega)) [] (rfl) rfl (trivial)
theorem e_26 : Enters Tryz.prog 26 := Enters.of Tryz.func26 rfl
theorem c_iHasDigit (p : VPh) (hp : OkPh p) (wh d : Nat) (hw : wh < 8) (hd : d < 128) : Ret Tryz.prog 26 [.agg (encPh p).toArray, .int .i64 (wh : Int), .int .i64 (d : Int)] (fun w => True) (fun x : Unit => .bool (hasM (p.l.getD wh zMk) d)) (fun x => []) (fun x => True) := by
  refine Ret.of e_26 Tryz.func26 rfl Tryz.ntmps26 rfl rfl (fun w hpre => ?_)
  refine Ex.regSeq (ExL.pures 0 rfl ?_)
  refine ExL.op rfl (op_box rfl rfl rfl rfl rfl (fun b1 => ?_))
  refine ExL.pures 1 rfl ?_
  refine ExL.nil ?_
  refine Ex.regSeq (ExL.pures 1 rfl ?_)
  refine ExL.op rfl (op_ret rfl rfl rfl (c_within _ _ _) (fun _ _ => trivial) rfl rfl (fun x2 hx2 => ?_))
  refine ExL.pures 1 rfl ?_
  refine ExL.bool (d := 9) rfl (fun hb3 => ?_) (fun hb3 => ?_)
  · replace hb3 := of_decide_eq_true hb3
    refine ExL.pures 1 rfl ?_
    refine ExL.op rfl (op_ret rfl rfl rfl (c_within _ _ _) (fun _ _ => trivial) rfl rfl (fun x4 hx4 => ?_))
    refine ExL.pures 2 rfl ?_
    refine ExL.bool (d := 13) rfl (fun hb5 => ?_) (fun hb5 => ?_)
    · replace hb5 := of_decide_eq_true hb5
      refine ExL.pures 1 rfl ?_
      refine ExL.free (fr_indexAddr_b (sz := 2) rfl rfl rfl rfl rfl (by omega)) rfl rfl rfl ?_
      refine ExL.free (fr_loadN rfl rfl rfl rfl rfl (segB (i := 0) rfl encMk_len zMk (by rw [ph_len]; omega))) rfl rfl rfl ?_
      refine ExL.pures 1 rfl ?_
      refine ExL.op rfl (op_ret rfl rfl rfl (c_has (p.l.getD wh zMk) (hp wh (by omega)) _ (by omega)) (fun _ _ => trivial) rfl rfl (fun x6 hx6 => ?_))
      refine ExL.pures 2 rfl ?_
      refine ExL.nil ?_
      refine Ex.ret ?_
      refine RetQ.mk () rfl (.tmp rfl .nil) (tB (by first | rfl | (exfalso; omega) | simp_all)) [] (rfl) rfl (trivial)
    · replace hb5 := of_decide_eq_false hb5
      refine ExL.pures 7 rfl ?_
      refine ExL.nil ?_
      refine Ex.ret ?_
      refine RetQ.mk () rfl (.tmp rfl .nil) (tB (by first | rfl | (exfalso; omega) | simp_all)) [] (rfl) rfl (trivial)
  · replace hb3 := of_decide_eq_false hb3
    refine ExL.pures 11 rfl ?_
    refine ExL.nil ?_
    refine Ex.ret ?_
    refine RetQ.mk () rfl (.tmp rfl .nil) (tB (by first | rfl | (exfalso; omega) | simp_all)) [] (rfl) rfl (trivial)
end Go.Proofs.YtdgfalhfmboalaaGreatDoor

/- A number of an array's array, by a number that is reckoned. -/
set_option linter.unusedVariables false
set_option linter.unusedSimpArgs false
namespace Go.Sx
open Go Go.RowKit Go.W
variable {C : Cx} {m : List Ent}
theorem cellML {i b : Nat} {T : TypeId} {l : List VMk} {k : Nat} {r : VMk} (hi : m[i]? = some (.blk b (l.flatMap encMk) T)) (hk : k < l.length) (he : l.getD k zMk = r) : CellO C m (some ⟨b, 0 + (k : Int).toNat * 2 + (0 : Int).toNat * 1, none⟩) (.int .u64 r.lo) := by
  subst he
  refine CellO.blk hi ?_
  have := flat_get encMk_len zMk l k 0 hk (by decide)
  rw [show 0 + (k : Int).toNat * 2 + (0 : Int).toNat * 1 = k * 2 + 0 by simp, this]
  rfl
theorem cellMH {i b : Nat} {T : TypeId} {l : List VMk} {k : Nat} {r : VMk} (hi : m[i]? = some (.blk b (l.flatMap encMk) T)) (hk : k < l.length) (he : l.getD k zMk = r) : CellO C m (some ⟨b, 0 + (k : Int).toNat * 2 + (1 : Int).toNat * 1, none⟩) (.int .u64 r.hi) := by
  subst he
  refine CellO.blk hi ?_
  have := flat_get encMk_len zMk l k 1 hk (by decide)
  rw [show 0 + (k : Int).toNat * 2 + (1 : Int).toNat * 1 = k * 2 + 1 by simp, this]
  rfl
end Go.Sx
namespace Go.W
open Go Go.Sx
theorem with_put {p : VPh} {d q : Nat} {v : List Value} (hq : q = 0 * 2) (hv : v = encMk (putM (p.l.getD 0 zMk) d)) : put (encPh p) q v = encPh (withP p 0 d) := by
  show put (p.l.flatMap encMk) q v = _
  rw [bl_put (l := p.l) (i := 0) (by rw [ph_len]; decide) hq hv]
  unfold withP
  rw [encPh_ph (by rw [List.length_set]; rfl)]
theorem ofP_put {s a : List Int} {k q : Nat} {v : List Value} (hk : k < s.length) (h8 : s.length ≤ 8) (hq : q = k * 2) (hv : v = encMk (putM zMk (a.getD k 0).toNat)) : put ((putW s a zPh.l k).flatMap encMk) q v = (putW s a zPh.l (k + 1)).flatMap encMk := by
  have hl : (putW s a zPh.l k).length = 8 := by rw [putW_len]; rfl
  have e : (putW s a zPh.l k).getD k zMk = zMk := by
    rw [putW_get (l := zPh.l) k (by show k ≤ 8; omega), if_neg (by omega), zPh_get]
  rw [bl_put (by omega) hq (y := putM zMk (a.getD k 0).toNat) hv, putW, putD, e]
end Go.W

/- What these functions of the program hand back, each proved by walking its operations. -/
set_option linter.unusedVariables false
set_option linter.unusedSimpArgs false
set_option maxRecDepth 4000
namespace Go.Proofs.YtdgfalhfmboalaaGreatDoor
open Go Go.Sx Go.RowKit Go.W Go.Proofs
attribute [local irreducible] Ex ExL ExD Op1 Free RetQ MutQ Reads CellO SegO LoadsAs
theorem e_22 : Enters Tryz.prog 22 := Enters.of Tryz.func22 rfl
set_option maxHeartbeats 1000000 in
theorem c_iMeet (s : List Int) (hu : Nums 255 s) (As : Option Addr) (cs : Nat) (hls : s.length ≤ maxLen) (p : VPh) (hp : OkPh p) (q : VPh) (hq : OkPh q) (hvp : validPh s p = true) (hvq : validPh s q = true) (hvm : photoOk s (mixP mtM p q).l = true) : Ret Tryz.prog 22 [.slice As s.length cs, .agg (encPh p).toArray, .agg (encPh q).toArray] (fun w => Rd w As (s.flatMap (eI .u8))) (fun x : Unit => .tuple #[.agg (encPh (mixP mtM p q)).toArray, .int .i64 0]) (fun x => []) (fun x => True) := by
  refine Ret.of e_22 Tryz.func22 rfl Tryz.ntmps22 rfl rfl (fun w hpre => ?_)
  have hs := hpre.base
  obtain ⟨hv, hS, hP⟩ := vph hp hvp
  obtain ⟨_, _, hQ⟩ := vph hq hvq
  have h8 := hS.len8
  have hpl := ph_len p
  have hql := ph_len q
  have hm0 : maxLen = 9223372036854775807 := rfl
  refine Ex.regSeq (ExL.pures 0 rfl ?_)
  refine ExL.op rfl (op_box rfl rfl rfl rfl rfl (fun b1 => ?_))
  refine ExL.op rfl (op_box rfl rfl rfl rfl rfl (fun b2 => ?_))
  refine ExL.op rfl (op_alloc rfl rfl rfl rfl rfl (fun b3 => ?_))
  refine ExL.pures 1 rfl ?_
  refine ExL.nil ?_
  refine Ex.seq ?_
  refine Ex.regSeq (ExL.pures 1 rfl ?_)
  refine ExL.free (fr_loadN rfl rfl rfl rfl rfl (SegO.whole (i := 2) rfl)) rfl rfl rfl ?_
  refine ExL.op rfl (op_ret rfl rfl rfl (c_iValidPhoto s (by assumption) _ _ (by omega) p hp) (Reads.get (Reads.old hs)) rfl rfl (fun x4 hx4 => ?_))
  refine ExL.pures 2 rfl ?_
  refine ExL.bool (d := 14) rfl (fun hb5 => ?_) (fun hb5 => ?_)
  · replace hb5 := nb_t hb5
    refine ExL.pures 5 rfl ?_
    refine ExL.nil ?_
    refine Ex.cond_t rfl ?_
    refine Ex.regSeq (ExL.pures 0 rfl ?_)
    refine ExL.free (fr_build rfl rfl rfl rfl) rfl rfl rfl ?_
    refine ExL.op rfl (op_storeC (i := 0) rfl rfl rfl rfl rfl rfl rfl rfl rfl rfl ?_)
    refine ExL.pures 1 rfl ?_
    refine ExL.nil ?_
    refine Ex.ret ?_
    refine RetQ.mk () rfl (.cell rfl (.many rfl rfl rfl (SegO.whole (i := 0) rfl)) (.tmp rfl .nil)) ((by first | exact t2 rfl rfl | exact t2 (congrArg (fun z : VPh => Value.agg (encPh z).toArray) hmx) rfl | exact t2 (congrArg (fun z : VPh => Value.agg (encPh z).toArray) hmx.symm) rfl | (exfalso; simp_all; done))) [] (rfl) rfl (trivial)
  · replace hb5 := nb_f hb5
    refine ExL.pures 1 rfl ?_
    refine ExL.free (fr_loadN rfl rfl rfl rfl rfl (SegO.whole (i := 1) rfl)) rfl rfl rfl ?_
    refine ExL.op rfl (op_ret rfl rfl rfl (c_iValidPhoto s (by assumption) _ _ (by omega) q hq) (Reads.get (Reads.old hs)) rfl rfl (fun x6 hx6 => ?_))
    refine ExL.pures 2 rfl ?_
    refine ExL.nil ?_
    refine Ex.cond rfl (fun hb7 => ?_) (fun hb7 => ?_)
    · replace hb7 := nb_t hb7
      refine Ex.regSeq (ExL.pures 0 rfl ?_)
      refine ExL.free (fr_build rfl rfl rfl rfl) rfl rfl rfl ?_
      refine ExL.op rfl (op_storeC (i := 0) rfl rfl rfl rfl rfl rfl rfl rfl rfl rfl ?_)
      refine ExL.pures 1 rfl ?_
      refine ExL.nil ?_
      refine Ex.ret ?_
      refine RetQ.mk () rfl (.cell rfl (.many rfl rfl rfl (SegO.whole (i := 0) rfl)) (.tmp rfl .nil)) ((by first | exact t2 rfl rfl | exact t2 (congrArg (fun z : VPh => Value.agg (encPh z).toArray) hmx) rfl | exact t2 (congrArg (fun z : VPh => Value.agg (encPh z).toArray) hmx.symm) rfl | (exfalso; simp_all; done))) [] (rfl) rfl (trivial)
    · replace hb7 := nb_f hb7
      refine Ex.skip ?_
      refine Ex.seq ?_
      refine Ex.regSeq (ExL.pures 0 rfl ?_)
      refine ExL.free (fr_loadN rfl rfl rfl rfl rfl (SegO.whole (i := 1) rfl)) rfl rfl rfl ?_
      refine ExL.pures 1 rfl ?_
      refine ExL.nil ?_
      refine Ex.block ?_
      refine Ex.loopK (X := Nat) (fun k => [(22, .int .i64 k)]) (fun k => [.blk b1 ((mixL mtM p.l q.l k).flatMap encMk) 31]) (fun k => k ≤ 8) (fun k => 8 - k) 0 [(0, _), (4, _), (6, _), (7, _), (21, _)] [_] 3 [2, 0] ⟨rfl, trivial⟩ ⟨rfl, rfl, rfl, rfl, rfl, trivial⟩ (rfl) rfl (Nat.zero_le _) (fun k hI => ?_)
      have hI : k ≤ 8 := hI
      refine Ex.regSeq (ExL.pures 0 rfl ?_)
      refine ExL.lss rfl rfl rfl rfl rfl rfl (fun h8 => ?_) (fun h8 => ?_)
      · refine ExL.nil ?_
        refine Ex.seq ?_
        refine Ex.cond_t rfl ?_
        refine Ex.skip ?_
        refine Ex.seq ?_
        refine Ex.block ?_
        have hks : k < 8 := by omega
        have hml := mixL_len mtM p.l q.l k
        have hmk : (mixL mtM p.l q.l k).getD k zMk = p.l.getD k zMk := by rw [mixL_at (by omega), if_neg (by omega)]
        refine Ex.regSeq (ExL.pures 1 rfl ?_)
        refine ExL.free (fr_indexG encMk_len zMk rfl rfl rfl rfl rfl rfl rfl rfl (by rw [ph_len]; omega)) rfl rfl rfl ?_
        refine ExL.op rfl (op_alloc rfl rfl rfl rfl rfl (fun b9 => ?_))
        refine ExL.pures 1 rfl ?_
        refine ExL.op rfl (op_storeC (i := 0) rfl rfl rfl rfl rfl rfl rfl rfl rfl rfl ?_)
        refine ExL.nil ?_
        refine Ex.drawM rfl ?_
        refine ExD.take (i := 0) rfl (by kernel_rfl) (pureVal_ok rfl) ((List.Sublist.refl _)) rfl rfl rfl ?_
        refine ExD.take (i := 1) rfl (by kernel_rfl) (pureVal_ok rfl) ((List.Sublist.refl _)) rfl rfl rfl ?_
        refine ExD.take (i := 2) rfl (by kernel_rfl) (fr_indexAddr_b (sz := 2) rfl rfl rfl rfl rfl (by omega)) ((List.Sublist.refl _)) rfl rfl rfl ?_
        refine ExD.take (i := 3) rfl (by kernel_rfl) (fr_indexAddr_b (sz := 1) rfl rfl rfl rfl rfl (by omega)) ((List.Sublist.refl _)) rfl rfl rfl ?_
        refine ExD.take (i := 4) rfl (by kernel_rfl) (fr_load rfl rfl rfl rfl (cellML (i := 1) (l := (mixL mtM p.l q.l k)) (k := k) rfl (by first | (rw [hml]; omega) | (rw [ph_len]; omega)) hmk)) ((List.Sublist.refl _)) rfl rfl rfl ?_
        refine ExD.take (i := 5) rfl (by kernel_rfl) (fr_indexAddr_b (sz := 1) rfl rfl rfl rfl rfl (by omega)) ((List.Sublist.refl _)) rfl rfl rfl ?_
        refine ExD.take (i := 6) rfl (by kernel_rfl) (fr_load rfl rfl rfl rfl (CellO.blk (i := 0) rfl rfl)) ((List.Sublist.refl _)) rfl rfl rfl ?_
        refine ExD.take (i := 7) rfl (by kernel_rfl) (by first | exact fr_and255 rfl rfl rfl (by omega) | exact fr_bits rfl rfl rfl (by simp)) ((List.Sublist.refl _)) rfl rfl rfl ?_
        refine ExD.take (i := 8) rfl (by kernel_rfl) (pureVal_ok rfl) ((List.Sublist.refl _)) rfl rfl rfl ?_
        refine ExD.take (i := 9) rfl (by kernel_rfl) (fr_indexAddr_b (sz := 2) rfl rfl rfl rfl rfl (by omega)) ((List.Sublist.refl _)) rfl rfl rfl ?_
        refine ExD.take (i := 10) rfl (by kernel_rfl) (fr_indexAddr_b (sz := 1) rfl rfl rfl rfl rfl (by omega)) ((List.Sublist.refl _)) rfl rfl rfl ?_
        refine ExD.take (i := 11) rfl (by kernel_rfl) (fr_load rfl rfl rfl rfl (cellMH (i := 1) (l := (mixL mtM p.l q.l k)) (k := k) rfl (by first | (rw [hml]; omega) | (rw [ph_len]; omega)) hmk)) ((List.Sublist.refl _)) rfl rfl rfl ?_
        refine ExD.take (i := 12) rfl (by kernel_rfl) (fr_indexAddr_b (sz := 1) rfl rfl rfl rfl rfl (by omega)) ((List.Sublist.refl _)) rfl rfl rfl ?_
        refine ExD.take (i := 13) rfl (by kernel_rfl) (fr_load rfl rfl rfl rfl (CellO.blk (i := 0) rfl rfl)) ((List.Sublist.refl _)) rfl rfl rfl ?_
        refine ExD.take (i := 14) rfl (by kernel_rfl) (by first | exact fr_and255 rfl rfl rfl (by omega) | exact fr_bits rfl rfl rfl (by simp)) ((List.Sublist.refl _)) rfl rfl rfl ?_
        refine ExD.take (i := 15) rfl (by kernel_rfl) (fr_build (cells := encMk (mtM (p.l.getD k zMk) (q.l.getD k zMk))) rfl rfl rfl (by kernel_rfl)) ((List.Sublist.refl _)) rfl rfl rfl ?_
        refine ExD.take (i := 16) rfl (by kernel_rfl) (fr_indexAddr_b (sz := 2) rfl rfl rfl rfl rfl (by omega)) ((List.Sublist.refl _)) rfl rfl rfl ?_
        refine ExD.last (i := 17) rfl (by kernel_rfl) (by kernel_rfl) rfl (op_store (i := 1) rfl rfl rfl rfl rfl rfl rfl rfl (room encMk_len (k := k) (by rw [hml]; omega) (by simp) rfl) rfl ?_)
        refine ExD.done (by kernel_rfl) ?_
        refine Ex.region (ExL.pures 0 rfl ?_)
        refine ExL.free (by first | exact fr_add64 rfl rfl rfl (by omega) | exact fr_add rfl rfl rfl) rfl rfl rfl ?_
        refine ExL.pures 1 rfl ?_
        refine ExL.nil ?_
        refine Hand.mk (k + 1) 3 [1, 2] ⟨rfl, trivial⟩ ⟨rfl, rfl, rfl, rfl, rfl, trivial⟩ (pkB (mixL_put (by omega) (by simp) rfl)) rfl (by omega) (by omega)
      · refine ExL.nil ?_
        refine Ex.seq ?_
        refine Ex.cond_f rfl ?_
        refine Ex.exit ?_
        obtain rfl : k = 8 := by omega
        refine Ex.seq ?_
        rw [← encPh_ph (mixL_len mtM p.l q.l 8)]
        have hmx : phot (mixL mtM p.l q.l 8) = mixP mtM p q := rfl
        have hvm2 : photoOk s (phot (mixL mtM p.l q.l 8)).l = true := by rw [hmx]; exact hvm
        refine Ex.regSeq (ExL.pures 1 rfl ?_)
        refine ExL.free (fr_loadN rfl rfl rfl rfl rfl (SegO.whole (i := 0) rfl)) rfl rfl rfl ?_
        refine ExL.op rfl (op_ret rfl rfl rfl (c_photoOK s (by first | assumption | simp_all) _ _ (phot (mixL mtM p.l q.l 8)) (mixP_okn and_ok hp hq _)) (Reads.get (Reads.old hs)) rfl rfl (fun x10 hx10 => ?_))
        refine ExL.pures 1 rfl ?_
        refine ExL.nil ?_
        refine Ex.cond rfl (fun hb11 => ?_) (fun hb11 => ?_)
        · replace hb11 := nb_t hb11
          refine Ex.regSeq (ExL.pures 0 rfl ?_)
          refine ExL.free (fr_build rfl rfl rfl rfl) rfl rfl rfl ?_
          refine ExL.op rfl (op_storeC (i := 1) rfl rfl rfl rfl rfl rfl rfl rfl rfl rfl ?_)
          refine ExL.pures 1 rfl ?_
          refine ExL.nil ?_
          refine Ex.ret ?_
          refine RetQ.mk () rfl (.cell rfl (.many rfl rfl rfl (SegO.whole (i := 1) rfl)) (.tmp rfl .nil)) ((by first | exact t2 rfl rfl | exact t2 (congrArg (fun z : VPh => Value.agg (encPh z).toArray) hmx) rfl | exact t2 (congrArg (fun z : VPh => Value.agg (encPh z).toArray) hmx.symm) rfl | (exfalso; simp_all; done))) [] (rfl) rfl (trivial)
        · replace hb11 := nb_f hb11
          refine Ex.skip ?_
          refine Ex.regSeq (ExL.pures 0 rfl ?_)
          refine ExL.free (fr_loadN rfl rfl rfl rfl rfl (SegO.whole (i := 0) rfl)) rfl rfl rfl ?_
          refine ExL.op rfl (op_storeC (i := 1) rfl rfl rfl rfl rfl rfl rfl rfl rfl rfl ?_)
          refine ExL.pures 1 rfl ?_
          refine ExL.nil ?_
          refine Ex.ret ?_
          refine RetQ.mk () rfl (.cell rfl (.many rfl rfl rfl (SegO.whole (i := 1) rfl)) (.tmp rfl .nil)) ((by first | exact t2 rfl rfl | exact t2 (congrArg (fun z : VPh => Value.agg (encPh z).toArray) hmx) rfl | exact t2 (congrArg (fun z : VPh => Value.agg (encPh z).toArray) hmx.symm) rfl | (exfalso; simp_all; done))) [] (rfl) rfl (trivial)
theorem e_24 : Enters Tryz.prog 24 := Enters.of Tryz.func24 rfl
set_option maxHeartbeats 1000000 in
theorem c_sMeet (s : List Int) (hu : Nums 255 s) (As : Option Addr) (cs : Nat) (hls : s.length ≤ maxLen) (p : VPh) (hp : OkPh p) (q : VPh) (hq : OkPh q) (hvp : validPh s p = true) (hvq : validPh s q = true) (hvm : photoOk s (mixP mtM p q).l = true) : Ret Tryz.prog 24 [.slice As s.length cs, .agg (encPh p).toArray, .agg (encPh q).toArray] (fun w => Rd w As (s.flatMap (eI .u8))) (fun x : Unit => .tuple #[.agg (encPh (mixP mtM p q)).toArray, .int .i64 0]) (fun x => []) (fun x => True) := by
  refine Ret.of e_24 Tryz.func24 rfl Tryz.ntmps24 rfl rfl (fun w hpre => ?_)
  have hs := hpre.base
  obtain ⟨hv, hS, hP⟩ := vph hp hvp
  obtain ⟨_, _, hQ⟩ := vph hq hvq
  have h8 := hS.len8
  have hpl := ph_len p
  have hql := ph_len q
  have hm0 : maxLen = 9223372036854775807 := rfl
  refine Ex.regSeq (ExL.pures 0 rfl ?_)
  refine ExL.op rfl (op_box rfl rfl rfl rfl rfl (fun b1 => ?_))
  refine ExL.op rfl (op_box rfl rfl rfl rfl rfl (fun b2 => ?_))
  refine ExL.op rfl (op_alloc rfl rfl rfl rfl rfl (fun b3 => ?_))
  refine ExL.pures 1 rfl ?_
  refine ExL.nil ?_
  refine Ex.seq ?_
  refine Ex.regSeq (ExL.pures 1 rfl ?_)
  refine ExL.free (fr_loadN rfl rfl rfl rfl rfl (SegO.whole (i := 2) rfl)) rfl rfl rfl ?_
  refine ExL.op rfl (op_ret rfl rfl rfl (c_sValidPhoto s (by assumption) _ _ (by omega) p hp) (Reads.get (Reads.old hs)) rfl rfl (fun x4 hx4 => ?_))
  refine ExL.pures 2 rfl ?_
  refine ExL.bool (d := 13) rfl (fun hb5 => ?_) (fun hb5 => ?_)
  · replace hb5 := nb_t hb5
    refine ExL.pures 5 rfl ?_
    refine ExL.nil ?_
    refine Ex.cond_t rfl ?_
    refine Ex.regSeq (ExL.pures 0 rfl ?_)
    refine ExL.free (fr_build rfl rfl rfl rfl) rfl rfl rfl ?_
    refine ExL.op rfl (op_storeC (i := 0) rfl rfl rfl rfl rfl rfl rfl rfl rfl rfl ?_)
    refine ExL.pures 1 rfl ?_
    refine ExL.nil ?_
    refine Ex.ret ?_
    refine RetQ.mk () rfl (.cell rfl (.many rfl rfl rfl (SegO.whole (i := 0) rfl)) (.tmp rfl .nil)) ((by first | exact t2 rfl rfl | exact t2 (congrArg (fun z : VPh => Value.agg (encPh z).toArray) hmx) rfl | exact t2 (congrArg (fun z : VPh => Value.agg (encPh z).toArray) hmx.symm) rfl | (exfalso; simp_all; done))) [] (rfl) rfl (trivial)
  · replace hb5 := nb_f hb5
    refine ExL.pures 1 rfl ?_
    refine ExL.free (fr_loadN rfl rfl rfl rfl rfl (SegO.whole (i := 1) rfl)) rfl rfl rfl ?_
    refine ExL.op rfl (op_ret rfl rfl rfl (c_sValidPhoto s (by assumption) _ _ (by omega) q hq) (Reads.get (Reads.old hs)) rfl rfl (fun x6 hx6 => ?_))
    refine ExL.pures 2 rfl ?_
    refine ExL.nil ?_
    refine Ex.cond rfl (fun hb7 => ?_) (fun hb7 => ?_)
    · replace hb7 := nb_t hb7
      refine Ex.regSeq (ExL.pures 0 rfl ?_)
      refine ExL.free (fr_build rfl rfl rfl rfl) rfl rfl rfl ?_
      refine ExL.op rfl (op_storeC (i := 0) rfl rfl rfl rfl rfl rfl rfl rfl rfl rfl ?_)
      refine ExL.pures 1 rfl ?_
      refine ExL.nil ?_
      refine Ex.ret ?_
      refine RetQ.mk () rfl (.cell rfl (.many rfl rfl rfl (SegO.whole (i := 0) rfl)) (.tmp rfl .nil)) ((by first | exact t2 rfl rfl | exact t2 (congrArg (fun z : VPh => Value.agg (encPh z).toArray) hmx) rfl | exact t2 (congrArg (fun z : VPh => Value.agg (encPh z).toArray) hmx.symm) rfl | (exfalso; simp_all; done))) [] (rfl) rfl (trivial)
    · replace hb7 := nb_f hb7
      refine Ex.skip ?_
      refine Ex.seq ?_
      refine Ex.regSeq (ExL.pures 1 rfl ?_)
      refine ExL.nil ?_
      refine Ex.block ?_
      refine Ex.loopK (X := Nat) (fun k => [(8, .int .i64 k)]) (fun k => [.blk b1 ((mixL mtM p.l q.l k).flatMap encMk) 31, .blk b2 (encPh q) 31]) (fun k => k ≤ s.length) (fun k => s.length - k) 0 [(0, _), (4, _), (5, _), (6, _), (7, _)] [_] 3 [2, 1, 0] ⟨rfl, trivial⟩ ⟨rfl, rfl, rfl, rfl, rfl, trivial⟩ (rfl) rfl (Nat.zero_le _) (fun k hI => ?_)
      have hI : k ≤ s.length := hI
      refine Ex.seq ?_
      refine Ex.regSeq (ExL.pures 3 rfl ?_)
      refine ExL.lss rfl rfl rfl rfl rfl rfl (fun h8 => ?_) (fun h8 => ?_)
      · refine ExL.nil ?_
        refine Ex.cond_t rfl ?_
        refine Ex.skip ?_
        refine Ex.seq ?_
        refine Ex.block ?_
        have hks : k < s.length := by omega
        have hml := mixL_len mtM p.l q.l k
        have hmk : (mixL mtM p.l q.l k).getD k zMk = p.l.getD k zMk := by rw [mixL_at (by omega), if_neg (by omega)]
        refine Ex.drawM rfl ?_
        refine ExD.take (i := 0) rfl (by kernel_rfl) (pureVal_ok rfl) ((List.Sublist.refl _)) rfl rfl rfl ?_
        refine ExD.take (i := 1) rfl (by kernel_rfl) (pureVal_ok rfl) ((List.Sublist.refl _)) rfl rfl rfl ?_
        refine ExD.take (i := 2) rfl (by kernel_rfl) (fr_indexAddr_b (sz := 2) rfl rfl rfl rfl rfl (by omega)) ((List.Sublist.refl _)) rfl rfl rfl ?_
        refine ExD.take (i := 3) rfl (by kernel_rfl) (fr_indexAddr_b (sz := 1) rfl rfl rfl rfl rfl (by omega)) ((List.Sublist.refl _)) rfl rfl rfl ?_
        refine ExD.take (i := 4) rfl (by kernel_rfl) (fr_load rfl rfl rfl rfl (cellML (i := 0) (l := (mixL mtM p.l q.l k)) (k := k) rfl (by first | (rw [hml]; omega) | (rw [ph_len]; omega)) hmk)) ((List.Sublist.refl _)) rfl rfl rfl ?_
        refine ExD.take (i := 5) rfl (by kernel_rfl) (pureVal_ok rfl) ((List.Sublist.refl _)) rfl rfl rfl ?_
        refine ExD.take (i := 6) rfl (by kernel_rfl) (fr_indexAddr_b (sz := 2) rfl rfl rfl rfl rfl (by omega)) ((List.Sublist.refl _)) rfl rfl rfl ?_
        refine ExD.take (i := 7) rfl (by kernel_rfl) (fr_indexAddr_b (sz := 1) rfl rfl rfl rfl rfl (by omega)) ((List.Sublist.refl _)) rfl rfl rfl ?_
        refine ExD.take (i := 8) rfl (by kernel_rfl) (fr_load rfl rfl rfl rfl (cellML (i := 1) (l := q.l) (k := k) rfl (by first | (rw [hml]; omega) | (rw [ph_len]; omega)) rfl)) ((List.Sublist.refl _)) rfl rfl rfl ?_
        refine ExD.take (i := 9) rfl (by kernel_rfl) (by first | exact fr_and255 rfl rfl rfl (by omega) | exact fr_bits rfl rfl rfl (by simp)) ((List.Sublist.refl _)) rfl rfl rfl ?_
        refine ExD.take (i := 10) rfl (by kernel_rfl) (pureVal_ok rfl) ((List.Sublist.refl _)) rfl rfl rfl ?_
        refine ExD.take (i := 11) rfl (by kernel_rfl) (fr_indexAddr_b (sz := 2) rfl rfl rfl rfl rfl (by omega)) ((List.Sublist.refl _)) rfl rfl rfl ?_
        refine ExD.take (i := 12) rfl (by kernel_rfl) (fr_indexAddr_b (sz := 1) rfl rfl rfl rfl rfl (by omega)) ((List.Sublist.refl _)) rfl rfl rfl ?_
        refine ExD.take (i := 13) rfl (by kernel_rfl) (fr_load rfl rfl rfl rfl (cellMH (i := 0) (l := (mixL mtM p.l q.l k)) (k := k) rfl (by first | (rw [hml]; omega) | (rw [ph_len]; omega)) hmk)) ((List.Sublist.refl _)) rfl rfl rfl ?_
        refine ExD.take (i := 14) rfl (by kernel_rfl) (pureVal_ok rfl) ((List.Sublist.refl _)) rfl rfl rfl ?_
        refine ExD.take (i := 15) rfl (by kernel_rfl) (fr_indexAddr_b (sz := 2) rfl rfl rfl rfl rfl (by omega)) ((List.Sublist.refl _)) rfl rfl rfl ?_
        refine ExD.take (i := 16) rfl (by kernel_rfl) (fr_indexAddr_b (sz := 1) rfl rfl rfl rfl rfl (by omega)) ((List.Sublist.refl _)) rfl rfl rfl ?_
        refine ExD.take (i := 17) rfl (by kernel_rfl) (fr_load rfl rfl rfl rfl (cellMH (i := 1) (l := q.l) (k := k) rfl (by first | (rw [hml]; omega) | (rw [ph_len]; omega)) rfl)) ((List.Sublist.refl _)) rfl rfl rfl ?_
        refine ExD.take (i := 18) rfl (by kernel_rfl) (by first | exact fr_and255 rfl rfl rfl (by omega) | exact fr_bits rfl rfl rfl (by simp)) ((List.Sublist.refl _)) rfl rfl rfl ?_
        refine ExD.take (i := 19) rfl (by kernel_rfl) (fr_build (cells := encMk (mtM (p.l.getD k zMk) (q.l.getD k zMk))) rfl rfl rfl (by kernel_rfl)) ((List.Sublist.refl _)) rfl rfl rfl ?_
        refine ExD.take (i := 20) rfl (by kernel_rfl) (fr_indexAddr_b (sz := 2) rfl rfl rfl rfl rfl (by omega)) ((List.Sublist.refl _)) rfl rfl rfl ?_
        refine ExD.last (i := 21) rfl (by kernel_rfl) (by kernel_rfl) rfl (op_store (i := 0) rfl rfl rfl rfl rfl rfl rfl rfl (room encMk_len (k := k) (by rw [hml]; omega) (by simp) rfl) rfl ?_)
        refine ExD.done (by kernel_rfl) ?_
        refine Ex.region (ExL.pures 1 rfl ?_)
        refine ExL.free (by first | exact fr_add64 rfl rfl rfl (by omega) | exact fr_add rfl rfl rfl) rfl rfl rfl ?_
        refine ExL.pures 1 rfl ?_
        refine ExL.nil ?_
        refine Hand.mk (k + 1) 3 [0, 1, 2] ⟨rfl, trivial⟩ ⟨rfl, rfl, rfl, rfl, rfl, trivial⟩ (pkB (mixL_put (by omega) (by simp) rfl)) rfl (by omega) (by omega)
      · refine ExL.nil ?_
        refine Ex.cond_f rfl ?_
        refine Ex.exit ?_
        obtain rfl : k = s.length := by omega
        refine Ex.seq ?_
        rw [← encPh_ph (mixL_len mtM p.l q.l s.length)]
        have hmx : phot (mixL mtM p.l q.l s.length) = mixP mtM p q := mix_same and_ok hS.len8 hP hQ
        have hvm2 : photoOk s (phot (mixL mtM p.l q.l s.length)).l = true := by rw [hmx]; exact hvm
        refine Ex.regSeq (ExL.pures 1 rfl ?_)
        refine ExL.op rfl (op_ret rfl rfl rfl (c_l05Ok s (by first | assumption | simp_all) _ _ (phot (mixL mtM p.l q.l s.length)) (mixP_okn and_ok hp hq _) _ _) (fun w hw => ⟨Reads.get (Reads.old hs) w hw, Reads.get (Reads.blk (i := 0) rfl) w hw⟩) rfl rfl (fun x9 hx9 => ?_))
        refine ExL.pures 1 rfl ?_
        refine ExL.nil ?_
        refine Ex.cond rfl (fun hb10 => ?_) (fun hb10 => ?_)
        · replace hb10 := nb_t hb10
          refine Ex.regSeq (ExL.pures 0 rfl ?_)
          refine ExL.free (fr_build rfl rfl rfl rfl) rfl rfl rfl ?_
          refine ExL.op rfl (op_storeC (i := 2) rfl rfl rfl rfl rfl rfl rfl rfl rfl rfl ?_)
          refine ExL.pures 1 rfl ?_
          refine ExL.nil ?_
          refine Ex.ret ?_
          refine RetQ.mk () rfl (.cell rfl (.many rfl rfl rfl (SegO.whole (i := 2) rfl)) (.tmp rfl .nil)) ((by first | exact t2 rfl rfl | exact t2 (congrArg (fun z : VPh => Value.agg (encPh z).toArray) hmx) rfl | exact t2 (congrArg (fun z : VPh => Value.agg (encPh z).toArray) hmx.symm) rfl | (exfalso; simp_all; done))) [] (rfl) rfl (trivial)
        · replace hb10 := nb_f hb10
          refine Ex.skip ?_
          refine Ex.regSeq (ExL.pures 0 rfl ?_)
          refine ExL.free (fr_loadN rfl rfl rfl rfl rfl (SegO.whole (i := 0) rfl)) rfl rfl rfl ?_
          refine ExL.op rfl (op_storeC (i := 2) rfl rfl rfl rfl rfl rfl rfl rfl rfl rfl ?_)
          refine ExL.pures 1 rfl ?_
          refine ExL.nil ?_
          refine Ex.ret ?_
          refine RetQ.mk () rfl (.cell rfl (.many rfl rfl rfl (SegO.whole (i := 2) rfl)) (.tmp rfl .nil)) ((by first | exact t2 rfl rfl | exact t2 (congrArg (fun z : VPh => Value.agg (encPh z).toArray) hmx) rfl | exact t2 (congrArg (fun z : VPh => Value.agg (encPh z).toArray) hmx.symm) rfl | (exfalso; simp_all; done))) [] (rfl) rfl (trivial)
theorem e_23 : Enters Tryz.prog 23 := Enters.of Tryz.func23 rfl
set_option maxHeartbeats 1000000 in
theorem c_iJoin (s : List Int) (hu : Nums 255 s) (As : Option Addr) (cs : Nat) (hls : s.length ≤ maxLen) (p : VPh) (hp : OkPh p) (q : VPh) (hq : OkPh q) (hvp : validPh s p = true) (hvq : validPh s q = true) : Ret Tryz.prog 23 [.slice As s.length cs, .agg (encPh p).toArray, .agg (encPh q).toArray] (fun w => Rd w As (s.flatMap (eI .u8))) (fun x : Unit => .tuple #[.agg (encPh (mixP jnM p q)).toArray, .int .i64 0]) (fun x => []) (fun x => True) := by
  refine Ret.of e_23 Tryz.func23 rfl Tryz.ntmps23 rfl rfl (fun w hpre => ?_)
  have hs := hpre.base
  obtain ⟨hv, hS, hP⟩ := vph hp hvp
  obtain ⟨_, _, hQ⟩ := vph hq hvq
  have h8 := hS.len8
  have hpl := ph_len p
  have hql := ph_len q
  have hm0 : maxLen = 9223372036854775807 := rfl
  refine Ex.regSeq (ExL.pures 0 rfl ?_)
  refine ExL.op rfl (op_box rfl rfl rfl rfl rfl (fun b1 => ?_))
  refine ExL.op rfl (op_box rfl rfl rfl rfl rfl (fun b2 => ?_))
  refine ExL.op rfl (op_alloc rfl rfl rfl rfl rfl (fun b3 => ?_))
  refine ExL.pures 1 rfl ?_
  refine ExL.nil ?_
  refine Ex.seq ?_
  refine Ex.regSeq (ExL.pures 1 rfl ?_)
  refine ExL.free (fr_loadN rfl rfl rfl rfl rfl (SegO.whole (i := 2) rfl)) rfl rfl rfl ?_
  refine ExL.op rfl (op_ret rfl rfl rfl (c_iValidPhoto s (by assumption) _ _ (by omega) p hp) (Reads.get (Reads.old hs)) rfl rfl (fun x4 hx4 => ?_))
  refine ExL.pures 2 rfl ?_
  refine ExL.bool (d := 14) rfl (fun hb5 => ?_) (fun hb5 => ?_)
  · replace hb5 := nb_t hb5
    refine ExL.pures 5 rfl ?_
    refine ExL.nil ?_
    refine Ex.cond_t rfl ?_
    refine Ex.regSeq (ExL.pures 0 rfl ?_)
    refine ExL.free (fr_build rfl rfl rfl rfl) rfl rfl rfl ?_
    refine ExL.op rfl (op_storeC (i := 0) rfl rfl rfl rfl rfl rfl rfl rfl rfl rfl ?_)
    refine ExL.pures 1 rfl ?_
    refine ExL.nil ?_
    refine Ex.ret ?_
    refine RetQ.mk () rfl (.cell rfl (.many rfl rfl rfl (SegO.whole (i := 0) rfl)) (.tmp rfl .nil)) ((by first | exact t2 rfl rfl | exact t2 (congrArg (fun z : VPh => Value.agg (encPh z).toArray) hmx) rfl | exact t2 (congrArg (fun z : VPh => Value.agg (encPh z).toArray) hmx.symm) rfl | (exfalso; simp_all; done))) [] (rfl) rfl (trivial)
  · replace hb5 := nb_f hb5
    refine ExL.pures 1 rfl ?_
    refine ExL.free (fr_loadN rfl rfl rfl rfl rfl (SegO.whole (i := 1) rfl)) rfl rfl rfl ?_
    refine ExL.op rfl (op_ret rfl rfl rfl (c_iValidPhoto s (by assumption) _ _ (by omega) q hq) (Reads.get (Reads.old hs)) rfl rfl (fun x6 hx6 => ?_))
    refine ExL.pures 2 rfl ?_
    refine ExL.nil ?_
    refine Ex.cond rfl (fun hb7 => ?_) (fun hb7 => ?_)
    · replace hb7 := nb_t hb7
      refine Ex.regSeq (ExL.pures 0 rfl ?_)
      refine ExL.free (fr_build rfl rfl rfl rfl) rfl rfl rfl ?_
      refine ExL.op rfl (op_storeC (i := 0) rfl rfl rfl rfl rfl rfl rfl rfl rfl rfl ?_)
      refine ExL.pures 1 rfl ?_
      refine ExL.nil ?_
      refine Ex.ret ?_
      refine RetQ.mk () rfl (.cell rfl (.many rfl rfl rfl (SegO.whole (i := 0) rfl)) (.tmp rfl .nil)) ((by first | exact t2 rfl rfl | exact t2 (congrArg (fun z : VPh => Value.agg (encPh z).toArray) hmx) rfl | exact t2 (congrArg (fun z : VPh => Value.agg (encPh z).toArray) hmx.symm) rfl | (exfalso; simp_all; done))) [] (rfl) rfl (trivial)
    · replace hb7 := nb_f hb7
      refine Ex.skip ?_
      refine Ex.seq ?_
      refine Ex.regSeq (ExL.pures 0 rfl ?_)
      refine ExL.free (fr_loadN rfl rfl rfl rfl rfl (SegO.whole (i := 1) rfl)) rfl rfl rfl ?_
      refine ExL.pures 1 rfl ?_
      refine ExL.nil ?_
      refine Ex.block ?_
      refine Ex.loopK (X := Nat) (fun k => [(22, .int .i64 k)]) (fun k => [.blk b1 ((mixL jnM p.l q.l k).flatMap encMk) 31]) (fun k => k ≤ 8) (fun k => 8 - k) 0 [(4, _), (6, _), (7, _), (21, _)] [_] 3 [2, 0] ⟨rfl, trivial⟩ ⟨rfl, rfl, rfl, rfl, trivial⟩ (rfl) rfl (Nat.zero_le _) (fun k hI => ?_)
      have hI : k ≤ 8 := hI
      refine Ex.regSeq (ExL.pures 0 rfl ?_)
      refine ExL.lss rfl rfl rfl rfl rfl rfl (fun h8 => ?_) (fun h8 => ?_)
      · refine ExL.nil ?_
        refine Ex.seq ?_
        refine Ex.cond_t rfl ?_
        refine Ex.skip ?_
        refine Ex.seq ?_
        refine Ex.block ?_
        have hks : k < 8 := by omega
        have hml := mixL_len jnM p.l q.l k
        have hmk : (mixL jnM p.l q.l k).getD k zMk = p.l.getD k zMk := by rw [mixL_at (by omega), if_neg (by omega)]
        refine Ex.regSeq (ExL.pures 1 rfl ?_)
        refine ExL.free (fr_indexG encMk_len zMk rfl rfl rfl rfl rfl rfl rfl rfl (by rw [ph_len]; omega)) rfl rfl rfl ?_
        refine ExL.op rfl (op_alloc rfl rfl rfl rfl rfl (fun b9 => ?_))
        refine ExL.pures 1 rfl ?_
        refine ExL.op rfl (op_storeC (i := 0) rfl rfl rfl rfl rfl rfl rfl rfl rfl rfl ?_)
        refine ExL.nil ?_
        refine Ex.drawM rfl ?_
        refine ExD.take (i := 0) rfl (by kernel_rfl) (pureVal_ok rfl) ((List.Sublist.refl _)) rfl rfl rfl ?_
        refine ExD.take (i := 1) rfl (by kernel_rfl) (pureVal_ok rfl) ((List.Sublist.refl _)) rfl rfl rfl ?_
        refine ExD.take (i := 2) rfl (by kernel_rfl) (fr_indexAddr_b (sz := 2) rfl rfl rfl rfl rfl (by omega)) ((List.Sublist.refl _)) rfl rfl rfl ?_
        refine ExD.take (i := 3) rfl (by kernel_rfl) (fr_indexAddr_b (sz := 1) rfl rfl rfl rfl rfl (by omega)) ((List.Sublist.refl _)) rfl rfl rfl ?_
        refine ExD.take (i := 4) rfl (by kernel_rfl) (fr_load rfl rfl rfl rfl (cellML (i := 1) (l := (mixL jnM p.l q.l k)) (k := k) rfl (by first | (rw [hml]; omega) | (rw [ph_len]; omega)) hmk)) ((List.Sublist.refl _)) rfl rfl rfl ?_
        refine ExD.take (i := 5) rfl (by kernel_rfl) (fr_indexAddr_b (sz := 1) rfl rfl rfl rfl rfl (by omega)) ((List.Sublist.refl _)) rfl rfl rfl ?_
        refine ExD.take (i := 6) rfl (by kernel_rfl) (fr_load rfl rfl rfl rfl (CellO.blk (i := 0) rfl rfl)) ((List.Sublist.refl _)) rfl rfl rfl ?_
        refine ExD.take (i := 7) rfl (by kernel_rfl) (by first | exact fr_and255 rfl rfl rfl (by omega) | exact fr_bits rfl rfl rfl (by simp)) ((List.Sublist.refl _)) rfl rfl rfl ?_
        refine ExD.take (i := 8) rfl (by kernel_rfl) (pureVal_ok rfl) ((List.Sublist.refl _)) rfl rfl rfl ?_
        refine ExD.take (i := 9) rfl (by kernel_rfl) (fr_indexAddr_b (sz := 2) rfl rfl rfl rfl rfl (by omega)) ((List.Sublist.refl _)) rfl rfl rfl ?_
        refine ExD.take (i := 10) rfl (by kernel_rfl) (fr_indexAddr_b (sz := 1) rfl rfl rfl rfl rfl (by omega)) ((List.Sublist.refl _)) rfl rfl rfl ?_
        refine ExD.take (i := 11) rfl (by kernel_rfl) (fr_load rfl rfl rfl rfl (cellMH (i := 1) (l := (mixL jnM p.l q.l k)) (k := k) rfl (by first | (rw [hml]; omega) | (rw [ph_len]; omega)) hmk)) ((List.Sublist.refl _)) rfl rfl rfl ?_
        refine ExD.take (i := 12) rfl (by kernel_rfl) (fr_indexAddr_b (sz := 1) rfl rfl rfl rfl rfl (by omega)) ((List.Sublist.refl _)) rfl rfl rfl ?_
        refine ExD.take (i := 13) rfl (by kernel_rfl) (fr_load rfl rfl rfl rfl (CellO.blk (i := 0) rfl rfl)) ((List.Sublist.refl _)) rfl rfl rfl ?_
        refine ExD.take (i := 14) rfl (by kernel_rfl) (by first | exact fr_and255 rfl rfl rfl (by omega) | exact fr_bits rfl rfl rfl (by simp)) ((List.Sublist.refl _)) rfl rfl rfl ?_
        refine ExD.take (i := 15) rfl (by kernel_rfl) (fr_build (cells := encMk (jnM (p.l.getD k zMk) (q.l.getD k zMk))) rfl rfl rfl (by kernel_rfl)) ((List.Sublist.refl _)) rfl rfl rfl ?_
        refine ExD.take (i := 16) rfl (by kernel_rfl) (fr_indexAddr_b (sz := 2) rfl rfl rfl rfl rfl (by omega)) ((List.Sublist.refl _)) rfl rfl rfl ?_
        refine ExD.last (i := 17) rfl (by kernel_rfl) (by kernel_rfl) rfl (op_store (i := 1) rfl rfl rfl rfl rfl rfl rfl rfl (room encMk_len (k := k) (by rw [hml]; omega) (by simp) rfl) rfl ?_)
        refine ExD.done (by kernel_rfl) ?_
        refine Ex.region (ExL.pures 0 rfl ?_)
        refine ExL.free (by first | exact fr_add64 rfl rfl rfl (by omega) | exact fr_add rfl rfl rfl) rfl rfl rfl ?_
        refine ExL.pures 1 rfl ?_
        refine ExL.nil ?_
        refine Hand.mk (k + 1) 3 [1, 2] ⟨rfl, trivial⟩ ⟨rfl, rfl, rfl, rfl, trivial⟩ (pkB (mixL_put (by omega) (by simp) rfl)) rfl (by omega) (by omega)
      · refine ExL.nil ?_
        refine Ex.seq ?_
        refine Ex.cond_f rfl ?_
        refine Ex.exit ?_
        obtain rfl : k = 8 := by omega
        rw [← encPh_ph (mixL_len jnM p.l q.l 8)]
        have hmx : phot (mixL jnM p.l q.l 8) = mixP jnM p q := rfl
        refine Ex.regSeq (ExL.pures 0 rfl ?_)
        refine ExL.free (fr_loadN rfl rfl rfl rfl rfl (SegO.whole (i := 0) rfl)) rfl rfl rfl ?_
        refine ExL.op rfl (op_storeC (i := 1) rfl rfl rfl rfl rfl rfl rfl rfl rfl rfl ?_)
        refine ExL.pures 1 rfl ?_
        refine ExL.nil ?_
        refine Ex.ret ?_
        refine RetQ.mk () rfl (.cell rfl (.many rfl rfl rfl (SegO.whole (i := 1) rfl)) (.tmp rfl .nil)) ((by first | exact t2 rfl rfl | exact t2 (congrArg (fun z : VPh => Value.agg (encPh z).toArray) hmx) rfl | exact t2 (congrArg (fun z : VPh => Value.agg (encPh z).toArray) hmx.symm) rfl | (exfalso; simp_all; done))) [] (rfl) rfl (trivial)
theorem e_25 : Enters Tryz.prog 25 := Enters.of Tryz.func25 rfl
set_option maxHeartbeats 1000000 in
theorem c_sJoin (s : List Int) (hu : Nums 255 s) (As : Option Addr) (cs : Nat) (hls : s.length ≤ maxLen) (p : VPh) (hp : OkPh p) (q : VPh) (hq : OkPh q) (hvp : validPh s p = true) (hvq : validPh s q = true) : Ret Tryz.prog 25 [.slice As s.length cs, .agg (encPh p).toArray, .agg (encPh q).toArray] (fun w => Rd w As (s.flatMap (eI .u8))) (fun x : Unit => .tuple #[.agg (encPh (mixP jnM p q)).toArray, .int .i64 0]) (fun x => []) (fun x => True) := by
  refine Ret.of e_25 Tryz.func25 rfl Tryz.ntmps25 rfl rfl (fun w hpre => ?_)
  have hs := hpre.base
  obtain ⟨hv, hS, hP⟩ := vph hp hvp
  obtain ⟨_, _, hQ⟩ := vph hq hvq
  have h8 := hS.len8
  have hpl := ph_len p
  have hql := ph_len q
  have hm0 : maxLen = 9223372036854775807 := rfl
  refine Ex.regSeq (ExL.pures 0 rfl ?_)
  refine ExL.op rfl (op_box rfl rfl rfl rfl rfl (fun b1 => ?_))
  refine ExL.op rfl (op_box rfl rfl rfl rfl rfl (fun b2 => ?_))
  refine ExL.op rfl (op_alloc rfl rfl rfl rfl rfl (fun b3 => ?_))
  refine ExL.pures 1 rfl ?_
  refine ExL.nil ?_
  refine Ex.seq ?_
  refine Ex.regSeq (ExL.pures 1 rfl ?_)
  refine ExL.free (fr_loadN rfl rfl rfl rfl rfl (SegO.whole (i := 2) rfl)) rfl rfl rfl ?_
  refine ExL.op rfl (op_ret rfl rfl rfl (c_sValidPhoto s (by assumption) _ _ (by omega) p hp) (Reads.get (Reads.old hs)) rfl rfl (fun x4 hx4 => ?_))
  refine ExL.pures 2 rfl ?_
  refine ExL.bool (d := 13) rfl (fun hb5 => ?_) (fun hb5 => ?_)
  · replace hb5 := nb_t hb5
    refine ExL.pures 5 rfl ?_
    refine ExL.nil ?_
    refine Ex.cond_t rfl ?_
    refine Ex.regSeq (ExL.pures 0 rfl ?_)
    refine ExL.free (fr_build rfl rfl rfl rfl) rfl rfl rfl ?_
    refine ExL.op rfl (op_storeC (i := 0) rfl rfl rfl rfl rfl rfl rfl rfl rfl rfl ?_)
    refine ExL.pures 1 rfl ?_
    refine ExL.nil ?_
    refine Ex.ret ?_
    refine RetQ.mk () rfl (.cell rfl (.many rfl rfl rfl (SegO.whole (i := 0) rfl)) (.tmp rfl .nil)) ((by first | exact t2 rfl rfl | exact t2 (congrArg (fun z : VPh => Value.agg (encPh z).toArray) hmx) rfl | exact t2 (congrArg (fun z : VPh => Value.agg (encPh z).toArray) hmx.symm) rfl | (exfalso; simp_all; done))) [] (rfl) rfl (trivial)
  · replace hb5 := nb_f hb5
    refine ExL.pures 1 rfl ?_
    refine ExL.free (fr_loadN rfl rfl rfl rfl rfl (SegO.whole (i := 1) rfl)) rfl rfl rfl ?_
    refine ExL.op rfl (op_ret rfl rfl rfl (c_sValidPhoto s (by assumption) _ _ (by omega) q hq) (Reads.get (Reads.old hs)) rfl rfl (fun x6 hx6 => ?_))
    refine ExL.pures 2 rfl ?_
    refine ExL.nil ?_
    refine Ex.cond rfl (fun hb7 => ?_) (fun hb7 => ?_)
    · replace hb7 := nb_t hb7
      refine Ex.regSeq (ExL.pures 0 rfl ?_)
      refine ExL.free (fr_build rfl rfl rfl rfl) rfl rfl rfl ?_
      refine ExL.op rfl (op_storeC (i := 0) rfl rfl rfl rfl rfl rfl rfl rfl rfl rfl ?_)
      refine ExL.pures 1 rfl ?_
      refine ExL.nil ?_
      refine Ex.ret ?_
      refine RetQ.mk () rfl (.cell rfl (.many rfl rfl rfl (SegO.whole (i := 0) rfl)) (.tmp rfl .nil)) ((by first | exact t2 rfl rfl | exact t2 (congrArg (fun z : VPh => Value.agg (encPh z).toArray) hmx) rfl | exact t2 (congrArg (fun z : VPh => Value.agg (encPh z).toArray) hmx.symm) rfl | (exfalso; simp_all; done))) [] (rfl) rfl (trivial)
    · replace hb7 := nb_f hb7
      refine Ex.skip ?_
      refine Ex.seq ?_
      refine Ex.regSeq (ExL.pures 1 rfl ?_)
      refine ExL.nil ?_
      refine Ex.block ?_
      refine Ex.loopK (X := Nat) (fun k => [(8, .int .i64 k)]) (fun k => [.blk b1 ((mixL jnM p.l q.l k).flatMap encMk) 31, .blk b2 (encPh q) 31]) (fun k => k ≤ s.length) (fun k => s.length - k) 0 [(0, _), (4, _), (5, _), (6, _), (7, _)] [_] 3 [2, 1, 0] ⟨rfl, trivial⟩ ⟨rfl, rfl, rfl, rfl, rfl, trivial⟩ (rfl) rfl (Nat.zero_le _) (fun k hI => ?_)
      have hI : k ≤ s.length := hI
      refine Ex.seq ?_
      refine Ex.regSeq (ExL.pures 3 rfl ?_)
      refine ExL.lss rfl rfl rfl rfl rfl rfl (fun h8 => ?_) (fun h8 => ?_)
      · refine ExL.nil ?_
        refine Ex.cond_t rfl ?_
        refine Ex.skip ?_
        refine Ex.seq ?_
        refine Ex.block ?_
        have hks : k < s.length := by omega
        have hml := mixL_len jnM p.l q.l k
        have hmk : (mixL jnM p.l q.l k).getD k zMk = p.l.getD k zMk := by rw [mixL_at (by omega), if_neg (by omega)]
        refine Ex.drawM rfl ?_
        refine ExD.take (i := 0) rfl (by kernel_rfl) (pureVal_ok rfl) ((List.Sublist.refl _)) rfl rfl rfl ?_
        refine ExD.take (i := 1) rfl (by kernel_rfl) (pureVal_ok rfl) ((List.Sublist.refl _)) rfl rfl rfl ?_
        refine ExD.take (i := 2) rfl (by kernel_rfl) (fr_indexAddr_b (sz := 2) rfl rfl rfl rfl rfl (by omega)) ((List.Sublist.refl _)) rfl rfl rfl ?_
        refine ExD.take (i := 3) rfl (by kernel_rfl) (fr_indexAddr_b (sz := 1) rfl rfl rfl rfl rfl (by omega)) ((List.Sublist.refl _)) rfl rfl rfl ?_
        refine ExD.take (i := 4) rfl (by kernel_rfl) (fr_load rfl rfl rfl rfl (cellML (i := 0) (l := (mixL jnM p.l q.l k)) (k := k) rfl (by first | (rw [hml]; omega) | (rw [ph_len]; omega)) hmk)) ((List.Sublist.refl _)) rfl rfl rfl ?_
        refine ExD.take (i := 5) rfl (by kernel_rfl) (pureVal_ok rfl) ((List.Sublist.refl _)) rfl rfl rfl ?_
        refine ExD.take (i := 6) rfl (by kernel_rfl) (fr_indexAddr_b (sz := 2) rfl rfl rfl rfl rfl (by omega)) ((List.Sublist.refl _)) rfl rfl rfl ?_
        refine ExD.take (i := 7) rfl (by kernel_rfl) (fr_indexAddr_b (sz := 1) rfl rfl rfl rfl rfl (by omega)) ((List.Sublist.refl _)) rfl rfl rfl ?_
        refine ExD.take (i := 8) rfl (by kernel_rfl) (fr_load rfl rfl rfl rfl (cellML (i := 1) (l := q.l) (k := k) rfl (by first | (rw [hml]; omega) | (rw [ph_len]; omega)) rfl)) ((List.Sublist.refl _)) rfl rfl rfl ?_
        refine ExD.take (i := 9) rfl (by kernel_rfl) (by first | exact fr_and255 rfl rfl rfl (by omega) | exact fr_bits rfl rfl rfl (by simp)) ((List.Sublist.refl _)) rfl rfl rfl ?_
        refine ExD.take (i := 10) rfl (by kernel_rfl) (pureVal_ok rfl) ((List.Sublist.refl _)) rfl rfl rfl ?_
        refine ExD.take (i := 11) rfl (by kernel_rfl) (fr_indexAddr_b (sz := 2) rfl rfl rfl rfl rfl (by omega)) ((List.Sublist.refl _)) rfl rfl rfl ?_
        refine ExD.take (i := 12) rfl (by kernel_rfl) (fr_indexAddr_b (sz := 1) rfl rfl rfl rfl rfl (by omega)) ((List.Sublist.refl _)) rfl rfl rfl ?_
        refine ExD.take (i := 13) rfl (by kernel_rfl) (fr_load rfl rfl rfl rfl (cellMH (i := 0) (l := (mixL jnM p.l q.l k)) (k := k) rfl (by first | (rw [hml]; omega) | (rw [ph_len]; omega)) hmk)) ((List.Sublist.refl _)) rfl rfl rfl ?_
        refine ExD.take (i := 14) rfl (by kernel_rfl) (pureVal_ok rfl) ((List.Sublist.refl _)) rfl rfl rfl ?_
        refine ExD.take (i := 15) rfl (by kernel_rfl) (fr_indexAddr_b (sz := 2) rfl rfl rfl rfl rfl (by omega)) ((List.Sublist.refl _)) rfl rfl rfl ?_
        refine ExD.take (i := 16) rfl (by kernel_rfl) (fr_indexAddr_b (sz := 1) rfl rfl rfl rfl rfl (by omega)) ((List.Sublist.refl _)) rfl rfl rfl ?_
        refine ExD.take (i := 17) rfl (by kernel_rfl) (fr_load rfl rfl rfl rfl (cellMH (i := 1) (l := q.l) (k := k) rfl (by first | (rw [hml]; omega) | (rw [ph_len]; omega)) rfl)) ((List.Sublist.refl _)) rfl rfl rfl ?_
        refine ExD.take (i := 18) rfl (by kernel_rfl) (by first | exact fr_and255 rfl rfl rfl (by omega) | exact fr_bits rfl rfl rfl (by simp)) ((List.Sublist.refl _)) rfl rfl rfl ?_
        refine ExD.take (i := 19) rfl (by kernel_rfl) (fr_build (cells := encMk (jnM (p.l.getD k zMk) (q.l.getD k zMk))) rfl rfl rfl (by kernel_rfl)) ((List.Sublist.refl _)) rfl rfl rfl ?_
        refine ExD.take (i := 20) rfl (by kernel_rfl) (fr_indexAddr_b (sz := 2) rfl rfl rfl rfl rfl (by omega)) ((List.Sublist.refl _)) rfl rfl rfl ?_
        refine ExD.last (i := 21) rfl (by kernel_rfl) (by kernel_rfl) rfl (op_store (i := 0) rfl rfl rfl rfl rfl rfl rfl rfl (room encMk_len (k := k) (by rw [hml]; omega) (by simp) rfl) rfl ?_)
        refine ExD.done (by kernel_rfl) ?_
        refine Ex.region (ExL.pures 1 rfl ?_)
        refine ExL.free (by first | exact fr_add64 rfl rfl rfl (by omega) | exact fr_add rfl rfl rfl) rfl rfl rfl ?_
        refine ExL.pures 1 rfl ?_
        refine ExL.nil ?_
        refine Hand.mk (k + 1) 3 [0, 1, 2] ⟨rfl, trivial⟩ ⟨rfl, rfl, rfl, rfl, rfl, trivial⟩ (pkB (mixL_put (by omega) (by simp) rfl)) rfl (by omega) (by omega)
      · refine ExL.nil ?_
        refine Ex.cond_f rfl ?_
        refine Ex.exit ?_
        obtain rfl : k = s.length := by omega
        rw [← encPh_ph (mixL_len jnM p.l q.l s.length)]
        have hmx : phot (mixL jnM p.l q.l s.length) = mixP jnM p q := mix_same or_ok hS.len8 hP hQ
        refine Ex.regSeq (ExL.pures 0 rfl ?_)
        refine ExL.free (fr_loadN rfl rfl rfl rfl rfl (SegO.whole (i := 0) rfl)) rfl rfl rfl ?_
        refine ExL.op rfl (op_storeC (i := 2) rfl rfl rfl rfl rfl rfl rfl rfl rfl rfl ?_)
        refine ExL.pures 1 rfl ?_
        refine ExL.nil ?_
        refine Ex.ret ?_
        refine RetQ.mk () rfl (.cell rfl (.many rfl rfl rfl (SegO.whole (i := 2) rfl)) (.tmp rfl .nil)) ((by first | exact t2 rfl rfl | exact t2 (congrArg (fun z : VPh => Value.agg (encPh z).toArray) hmx) rfl | exact t2 (congrArg (fun z : VPh => Value.agg (encPh z).toArray) hmx.symm) rfl | (exfalso; simp_all; done))) [] (rfl) rfl (trivial)
end Go.Proofs.YtdgfalhfmboalaaGreatDoor

/- What these functions of the program hand back, each proved by walking its operations. -/
set_option linter.unusedVariables false
set_option linter.unusedSimpArgs false
set_option maxRecDepth 4000
namespace Go.Proofs.YtdgfalhfmboalaaGreatDoor
open Go Go.Sx Go.RowKit Go.W Go.Proofs
attribute [local irreducible] Ex ExL ExD Op1 Free RetQ MutQ Reads CellO SegO LoadsAs
theorem e_27 : Enters Tryz.prog 27 := Enters.of Tryz.func27 rfl
theorem c_iPhotoOf (s : List Int) (hu : Nums 255 s) (As : Option Addr) (cs : Nat) (hls : s.length ≤ maxLen) (hv : validStack s = true) (a : Dig) (ha : Nums 255 a.l) (hd0 : validDig s a.l = true) : Ret Tryz.prog 27 [.slice As s.length cs, .agg (encD a).toArray] (fun w => Rd w As (s.flatMap (eI .u8))) (fun x : Unit => .tuple #[.agg (encPh (ofP s a.l)).toArray, .int .i64 0]) (fun x => []) (fun x => True) := by
  refine Ret.of e_27 Tryz.func27 rfl Tryz.ntmps27 rfl rfl (fun w hpre => ?_)
  have hs := hpre.base
  have hS := stk hv
  have h8 := hS.len8
  have hDg := digOk h8 ha hd0
  have hm0 : maxLen = 9223372036854775807 := rfl
  refine Ex.regSeq (ExL.pures 0 rfl ?_)
  refine ExL.op rfl (op_box rfl rfl rfl rfl rfl (fun b1 => ?_))
  refine ExL.op rfl (op_alloc rfl rfl rfl rfl rfl (fun b2 => ?_))
  refine ExL.pures 1 rfl ?_
  refine ExL.nil ?_
  refine Ex.seq ?_
  refine Ex.regSeq (ExL.pures 1 rfl ?_)
  refine ExL.free (fr_loadN rfl rfl rfl rfl rfl (SegO.whole (i := 1) rfl)) rfl rfl rfl ?_
  refine ExL.op rfl (op_ret rfl rfl rfl (c_iValidDigits s (by assumption) _ _ (by omega) a (by assumption)) (Reads.get (Reads.old hs)) rfl rfl (fun x3 hx3 => ?_))
  refine ExL.pures 1 rfl ?_
  refine ExL.nil ?_
  refine Ex.cond rfl (fun hb4 => ?_) (fun hb4 => ?_)
  · replace hb4 := nb_t hb4
    refine Ex.regSeq (ExL.pures 0 rfl ?_)
    refine ExL.free (fr_build rfl rfl rfl rfl) rfl rfl rfl ?_
    refine ExL.op rfl (op_storeC (i := 0) rfl rfl rfl rfl rfl rfl rfl rfl rfl rfl ?_)
    refine ExL.pures 1 rfl ?_
    refine ExL.nil ?_
    refine Ex.ret ?_
    refine RetQ.mk () rfl (.cell rfl (.many rfl rfl rfl (SegO.whole (i := 0) rfl)) (.tmp rfl .nil)) ((by first | exact t2 rfl rfl | (exfalso; omega) | (exfalso; simp_all; done))) [] (rfl) rfl (trivial)
  · replace hb4 := nb_f hb4
    refine Ex.skip ?_
    refine Ex.regSeq (ExL.pures 0 rfl ?_)
    refine ExL.free (fr_build rfl rfl rfl rfl) rfl rfl rfl ?_
    refine ExL.op rfl (op_alloc rfl rfl rfl rfl rfl (fun b5 => ?_))
    refine ExL.op rfl (op_storeC (i := 0) rfl rfl rfl rfl rfl rfl rfl rfl rfl rfl ?_)
    refine ExL.nil ?_
    refine Ex.seq ?_
    refine Ex.regSeq (ExL.pures 3 rfl ?_)
    refine ExL.nil ?_
    refine Ex.block ?_
    refine Ex.loopK (X := Nat) (fun k => [(16, .int .i64 k)]) (fun k => [.blk b5 ((putW s a.l zPh.l k).flatMap encMk) 31, .blk b1 (encD a) 34]) (fun k => k ≤ s.length) (fun k => s.length - k) 0 [(3, _), (4, _), (5, _), (6, _), (15, _)] [_] 3 [0, 2, 1] ⟨rfl, trivial⟩ ⟨rfl, rfl, rfl, rfl, rfl, trivial⟩ (rfl) rfl (Nat.zero_le _) (fun k hI => ?_)
    have hI : k ≤ s.length := hI
    refine Ex.regSeq (ExL.pures 0 rfl ?_)
    refine ExL.lss rfl rfl rfl rfl rfl rfl (fun h6 => ?_) (fun h6 => ?_)
    · refine ExL.nil ?_
      refine Ex.seq ?_
      refine Ex.cond_t rfl ?_
      refine Ex.skip ?_
      refine Ex.seq ?_
      refine Ex.block ?_
      have hks : k < s.length := by omega
      have hdw := hDg k hks
      have hbw := hS.bases k hks
      have hpl : (putW s a.l zPh.l k).length = 8 := by rw [putW_len]; rfl
      refine Ex.regSeq (ExL.pures 2 rfl ?_)
      refine ExL.nil ?_
      refine Ex.region (ExL.pures 1 rfl ?_)
      refine ExL.free (fr_build (cells := encMk zMk) rfl rfl rfl (by kernel_rfl)) rfl rfl rfl ?_
      refine ExL.pures 1 rfl ?_
      refine ExL.free (fr_indexAddr_b (sz := 1) rfl rfl rfl rfl rfl (by omega)) rfl rfl rfl ?_
      refine ExL.free (fr_load rfl rfl rfl rfl (CellO.blk (i := 1) rfl (blkG (eI_len .u8) 0 rfl (by rw [dig_len]; omega) rfl))) rfl rfl rfl ?_
      refine ExL.free (by first | exact fr_conv64 rfl rfl rfl rfl (by omega) | exact fr_conv rfl rfl rfl rfl) rfl rfl rfl ?_
      refine ExL.op rfl (op_ret rfl rfl rfl (c_with zMk okZ (a.l.getD k 0) (by omega)) (fun _ _ => trivial) rfl rfl (fun x7 hx7 => ?_))
      refine ExL.free (fr_indexAddr_b (sz := 2) rfl rfl rfl rfl rfl (by omega)) rfl rfl rfl ?_
      refine ExL.op rfl (op_store (i := 0) rfl rfl rfl rfl rfl rfl rfl rfl (room encMk_len (k := k) (by rw [hpl]; omega) (by simp) rfl) rfl ?_)
      refine ExL.nil ?_
      refine Ex.region (ExL.pures 0 rfl ?_)
      refine ExL.free (by first | exact fr_add64 rfl rfl rfl (by omega) | exact fr_add rfl rfl rfl) rfl rfl rfl ?_
      refine ExL.pures 1 rfl ?_
      refine ExL.nil ?_
      refine Hand.mk (k + 1) 3 [0, 1, 2] ⟨rfl, trivial⟩ ⟨rfl, rfl, rfl, rfl, rfl, trivial⟩ (pkB (ofP_put (by omega) h8 (by simp) rfl)) rfl (by omega) (by omega)
    · refine ExL.nil ?_
      refine Ex.seq ?_
      refine Ex.cond_f rfl ?_
      refine Ex.exit ?_
      obtain rfl : k = s.length := (by omega)
      rw [← encPh_ph (l := (putW s a.l zPh.l s.length)) (by rw [putW_len]; rfl)]
      refine Ex.regSeq (ExL.pures 0 rfl ?_)
      refine ExL.free (fr_loadN rfl rfl rfl rfl rfl (SegO.whole (i := 0) rfl)) rfl rfl rfl ?_
      refine ExL.op rfl (op_storeC (i := 2) rfl rfl rfl rfl rfl rfl rfl rfl rfl rfl ?_)
      refine ExL.pures 1 rfl ?_
      refine ExL.nil ?_
      refine Ex.ret ?_
      refine RetQ.mk () rfl (.cell rfl (.many rfl rfl rfl (SegO.whole (i := 2) rfl)) (.tmp rfl .nil)) ((by first | exact t2 rfl rfl | (exfalso; omega) | (exfalso; simp_all; done))) [] (rfl) rfl (trivial)
theorem e_28 : Enters Tryz.prog 28 := Enters.of Tryz.func28 rfl
theorem c_iBlank (s : List Int) (hu : Nums 255 s) (As : Option Addr) (cs : Nat) (hls : s.length ≤ maxLen) (hv : validStack s = true) : Ret Tryz.prog 28 [.slice As s.length cs] (fun w => Rd w As (s.flatMap (eI .u8))) (fun x : Unit => .tuple #[.agg (encPh (blankP s)).toArray, .int .i64 0]) (fun x => []) (fun x => True) := by
  refine Ret.of e_28 Tryz.func28 rfl Tryz.ntmps28 rfl rfl (fun w hpre => ?_)
  have hs := hpre.base
  have hS := stk hv
  have h8 := hS.len8
  have hm0 : maxLen = 9223372036854775807 := rfl
  refine Ex.regSeq (ExL.pures 0 rfl ?_)
  refine ExL.op rfl (op_alloc rfl rfl rfl rfl rfl (fun b1 => ?_))
  refine ExL.pures 1 rfl ?_
  refine ExL.nil ?_
  refine Ex.seq ?_
  refine Ex.regSeq (ExL.pures 1 rfl ?_)
  refine ExL.op rfl (op_ret rfl rfl rfl (c_ValidStack _ (by assumption) _ _ (by first | assumption | omega | (unfold maxLen; omega))) (Reads.get (Reads.old hs)) rfl rfl (fun x2 hx2 => ?_))
  refine ExL.pures 1 rfl ?_
  refine ExL.nil ?_
  refine Ex.cond rfl (fun hb3 => ?_) (fun hb3 => ?_)
  · replace hb3 := nb_t hb3
    refine Ex.regSeq (ExL.pures 0 rfl ?_)
    refine ExL.free (fr_build rfl rfl rfl rfl) rfl rfl rfl ?_
    refine ExL.op rfl (op_storeC (i := 0) rfl rfl rfl rfl rfl rfl rfl rfl rfl rfl ?_)
    refine ExL.pures 1 rfl ?_
    refine ExL.nil ?_
    refine Ex.ret ?_
    refine RetQ.mk () rfl (.cell rfl (.many rfl rfl rfl (SegO.whole (i := 0) rfl)) (.tmp rfl .nil)) ((by first | exact t2 rfl rfl | (exfalso; omega) | (exfalso; simp_all; done))) [] (rfl) rfl (trivial)
  · replace hb3 := nb_f hb3
    refine Ex.skip ?_
    refine Ex.regSeq (ExL.pures 0 rfl ?_)
    refine ExL.free (fr_build rfl rfl rfl rfl) rfl rfl rfl ?_
    refine ExL.op rfl (op_alloc rfl rfl rfl rfl rfl (fun b4 => ?_))
    refine ExL.op rfl (op_storeC (i := 0) rfl rfl rfl rfl rfl rfl rfl rfl rfl rfl ?_)
    refine ExL.nil ?_
    refine Ex.seq ?_
    refine Ex.regSeq (ExL.pures 3 rfl ?_)
    refine ExL.nil ?_
    refine Ex.block ?_
    refine Ex.loopK (X := Nat) (fun k => [(14, .int .i64 k)]) (fun k => [.blk b4 ((blankL s k).flatMap encMk) 31]) (fun k => k ≤ s.length) (fun k => s.length - k) 0 [(2, _), (3, _), (4, _), (12, _), (13, _)] [_] 2 [0, 1] ⟨rfl, trivial⟩ ⟨rfl, rfl, rfl, rfl, rfl, trivial⟩ (rfl) rfl (Nat.zero_le _) (fun k hI => ?_)
    have hI : k ≤ s.length := hI
    refine Ex.regSeq (ExL.pures 0 rfl ?_)
    refine ExL.lss rfl rfl rfl rfl rfl rfl (fun h5 => ?_) (fun h5 => ?_)
    · refine ExL.nil ?_
      refine Ex.seq ?_
      refine Ex.cond_t rfl ?_
      refine Ex.skip ?_
      refine Ex.seq ?_
      refine Ex.block ?_
      have hks : k < s.length := by omega
      have hbw := hS.bases k hks
      have hpl := blankL_len s k
      refine Ex.regSeq (ExL.pures 1 rfl ?_)
      refine ExL.free (fr_indexAddrF (Reads.old hs) (eI_len .u8) rfl rfl rfl rfl rfl rfl (by omega)) rfl rfl rfl ?_
      refine ExL.free (fr_load rfl rfl rfl rfl (by first | exact cellN (Reads.old hs) (eI_len .u8) 0 0 rfl (by omega) rfl | exact cellF (Reads.old hs) (eI_len .u8) 0 0 rfl (by omega) rfl)) rfl rfl rfl ?_
      refine ExL.pures 2 rfl ?_
      refine ExL.nil ?_
      refine Ex.region (ExL.pures 2 rfl ?_)
      refine ExL.free (by first | exact fr_conv64 rfl rfl rfl rfl (by omega) | exact fr_conv rfl rfl rfl rfl) rfl rfl rfl ?_
      refine ExL.op rfl (op_ret rfl rfl rfl (c_below (s.getD k 0) (by omega)) (fun _ _ => trivial) rfl rfl (fun x6 hx6 => ?_))
      refine ExL.free (fr_indexAddr_b (sz := 2) rfl rfl rfl rfl rfl (by omega)) rfl rfl rfl ?_
      refine ExL.op rfl (op_store (i := 0) rfl rfl rfl rfl rfl rfl rfl rfl (room encMk_len (k := k) (by rw [hpl]; omega) (by simp) rfl) rfl ?_)
      refine ExL.nil ?_
      refine Ex.region (ExL.pures 0 rfl ?_)
      refine ExL.free (by first | exact fr_add64 rfl rfl rfl (by omega) | exact fr_add rfl rfl rfl) rfl rfl rfl ?_
      refine ExL.pures 1 rfl ?_
      refine ExL.nil ?_
      refine Hand.mk (k + 1) 2 [0, 1] ⟨rfl, trivial⟩ ⟨rfl, rfl, rfl, rfl, rfl, trivial⟩ (pkB (blankL_put (by omega) (by simp) rfl)) rfl (by omega) (by omega)
    · refine ExL.nil ?_
      refine Ex.seq ?_
      refine Ex.cond_f rfl ?_
      refine Ex.exit ?_
      obtain rfl : k = s.length := (by omega)
      rw [← encPh_ph (blankL_len s s.length)]
      refine Ex.regSeq (ExL.pures 0 rfl ?_)
      refine ExL.free (fr_loadN rfl rfl rfl rfl rfl (SegO.whole (i := 0) rfl)) rfl rfl rfl ?_
      refine ExL.op rfl (op_storeC (i := 1) rfl rfl rfl rfl rfl rfl rfl rfl rfl rfl ?_)
      refine ExL.pures 1 rfl ?_
      refine ExL.nil ?_
      refine Ex.ret ?_
      refine RetQ.mk () rfl (.cell rfl (.many rfl rfl rfl (SegO.whole (i := 1) rfl)) (.tmp rfl .nil)) ((by first | exact t2 rfl rfl | (exfalso; omega) | (exfalso; simp_all; done))) [] (rfl) rfl (trivial)
theorem e_30 : Enters Tryz.prog 30 := Enters.of Tryz.func30 rfl
theorem c_iWithDigit (s : List Int) (hu : Nums 255 s) (As : Option Addr) (cs : Nat) (hls : s.length ≤ maxLen) (p : VPh) (hp : OkPh p) (hvp : validPh s p = true) (d : Nat) (hd : (d : Int) < s.getD 0 0) : Ret Tryz.prog 30 [.slice As s.length cs, .agg (encPh p).toArray, .int .i64 0, .int .i64 (d : Int), .bool true] (fun w => Rd w As (s.flatMap (eI .u8))) (fun x : Unit => .tuple #[.agg (encPh (withP p 0 d)).toArray, .int .i64 0]) (fun x => []) (fun x => True) := by
  refine Ret.of e_30 Tryz.func30 rfl Tryz.ntmps30 rfl rfl (fun w hpre => ?_)
  have hs := hpre.base
  obtain ⟨hv, hS, hP⟩ := vph hp hvp
  have h8 := hS.len8
  have hl1 := hS.len1
  have hpl := ph_len p
  have hb9 := hS.bases 0 (by omega)
  have hwp := withP_ph hS hP (w := 0) (by omega) hd
  have hwv : photoOk s (withP p 0 d).l = true := ph_valid hS (withP_ok hp (by omega) (by omega)) hwp
  have hm0 : maxLen = 9223372036854775807 := rfl
  refine Ex.regSeq (ExL.pures 0 rfl ?_)
  refine ExL.op rfl (op_box rfl rfl rfl rfl rfl (fun b1 => ?_))
  refine ExL.op rfl (op_alloc rfl rfl rfl rfl rfl (fun b2 => ?_))
  refine ExL.pures 1 rfl ?_
  refine ExL.nil ?_
  refine Ex.seq ?_
  refine Ex.block ?_
  refine Ex.regSeq (ExL.pures 1 rfl ?_)
  refine ExL.free (fr_loadN rfl rfl rfl rfl rfl (SegO.whole (i := 1) rfl)) rfl rfl rfl ?_
  refine ExL.op rfl (op_ret rfl rfl rfl (c_iValidPhoto s (by assumption) _ _ (by omega) p hp) (Reads.get (Reads.old hs)) rfl rfl (fun x3 hx3 => ?_))
  refine ExL.pures 2 rfl ?_
  refine ExL.nil ?_
  refine Ex.cond rfl (fun hb4 => ?_) (fun hb4 => ?_)
  · replace hb4 := nb_t hb4
    refine Ex.regSeq (ExL.pures 0 rfl ?_)
    refine ExL.free (fr_build rfl rfl rfl rfl) rfl rfl rfl ?_
    refine ExL.op rfl (op_storeC (i := 0) rfl rfl rfl rfl rfl rfl rfl rfl rfl rfl ?_)
    refine ExL.pures 1 rfl ?_
    refine ExL.nil ?_
    refine Ex.ret ?_
    refine RetQ.mk () rfl (.cell rfl (.many rfl rfl rfl (SegO.whole (i := 0) rfl)) (.tmp rfl .nil)) ((by first | exact t2 rfl rfl | (exfalso; omega) | (exfalso; simp_all; done))) [] (rfl) rfl (trivial)
  · replace hb4 := nb_f hb4
    refine Ex.regSeq (ExL.pures 3 rfl ?_)
    refine ExL.op rfl (op_ret rfl rfl rfl (c_hasDigitS s _ _ (by omega) (by omega) (by omega) ↑d (by omega)) (Reads.get (Reads.old hs)) rfl rfl (fun x5 hx5 => ?_))
    refine ExL.pures 2 rfl ?_
    refine ExL.nil ?_
    refine Ex.cond_f rfl ?_
    refine Ex.skip ?_
    refine Ex.regSeq (ExL.pures 2 rfl ?_)
    refine ExL.free (fr_indexAddr_b (sz := 2) rfl rfl rfl rfl rfl (by omega)) rfl rfl rfl ?_
    refine ExL.free (fr_loadN rfl rfl rfl rfl rfl (segB (k := 0) (i := 1) rfl encMk_len zMk (by rw [ph_len]; decide))) rfl rfl rfl ?_
    refine ExL.pures 2 rfl ?_
    refine ExL.op rfl (op_ret rfl rfl rfl (c_with (p.l.getD 0 zMk) (hp 0 (by omega)) _ (by omega)) (fun _ _ => trivial) rfl rfl (fun x6 hx6 => ?_))
    refine ExL.free (fr_indexAddr_b (sz := 2) rfl rfl rfl rfl rfl (by omega)) rfl rfl rfl ?_
    refine ExL.op rfl (op_store (i := 1) rfl rfl rfl rfl rfl rfl rfl rfl (room encMk_len (xs := p.l) (k := 0) (by rw [ph_len]; omega) (by simp) rfl) rfl ?_)
    refine ExL.nil ?_
    refine Ex.seq ?_
    refine Ex.blkTo (i := 1) rfl (with_put (d := d) rfl (by first | rfl | simp)) ?_
    refine Ex.regSeq (ExL.pures 1 rfl ?_)
    refine ExL.free (fr_loadN rfl rfl rfl rfl rfl (SegO.whole (i := 1) rfl)) rfl rfl rfl ?_
    refine ExL.op rfl (op_ret rfl rfl rfl (c_photoOK s (by first | assumption | simp_all) _ _ (withP p 0 d) (withP_ok hp (by omega) (by omega))) (Reads.get (Reads.old hs)) rfl rfl (fun x7 hx7 => ?_))
    refine ExL.pures 1 rfl ?_
    refine ExL.nil ?_
    refine Ex.cond rfl (fun hb8 => ?_) (fun hb8 => ?_)
    · replace hb8 := nb_t hb8
      refine Ex.regSeq (ExL.pures 0 rfl ?_)
      refine ExL.free (fr_build rfl rfl rfl rfl) rfl rfl rfl ?_
      refine ExL.op rfl (op_storeC (i := 0) rfl rfl rfl rfl rfl rfl rfl rfl rfl rfl ?_)
      refine ExL.pures 1 rfl ?_
      refine ExL.nil ?_
      refine Ex.ret ?_
      refine RetQ.mk () rfl (.cell rfl (.many rfl rfl rfl (SegO.whole (i := 0) rfl)) (.tmp rfl .nil)) ((by first | exact t2 rfl rfl | (exfalso; omega) | (exfalso; simp_all; done))) [] (rfl) rfl (trivial)
    · replace hb8 := nb_f hb8
      refine Ex.skip ?_
      refine Ex.regSeq (ExL.pures 0 rfl ?_)
      refine ExL.free (fr_loadN rfl rfl rfl rfl rfl (SegO.whole (i := 1) rfl)) rfl rfl rfl ?_
      refine ExL.op rfl (op_storeC (i := 0) rfl rfl rfl rfl rfl rfl rfl rfl rfl rfl ?_)
      refine ExL.pures 1 rfl ?_
      refine ExL.nil ?_
      refine Ex.ret ?_
      refine RetQ.mk () rfl (.cell rfl (.many rfl rfl rfl (SegO.whole (i := 0) rfl)) (.tmp rfl .nil)) ((by first | exact t2 rfl rfl | (exfalso; omega) | (exfalso; simp_all; done))) [] (rfl) rfl (trivial)
theorem e_31 : Enters Tryz.prog 31 := Enters.of Tryz.func31 rfl
theorem c_sWithDigit (s : List Int) (hu : Nums 255 s) (As : Option Addr) (cs : Nat) (hls : s.length ≤ maxLen) (p : VPh) (hp : OkPh p) (hvp : validPh s p = true) (d : Nat) (hd : (d : Int) < s.getD 0 0) : Ret Tryz.prog 31 [.slice As s.length cs, .agg (encPh p).toArray, .int .i64 0, .int .i64 (d : Int), .bool true] (fun w => Rd w As (s.flatMap (eI .u8))) (fun x : Unit => .tuple #[.agg (encPh (withP p 0 d)).toArray, .int .i64 0]) (fun x => []) (fun x => True) := by
  refine Ret.of e_31 Tryz.func31 rfl Tryz.ntmps31 rfl rfl (fun w hpre => ?_)
  have hs := hpre.base
  obtain ⟨hv, hS, hP⟩ := vph hp hvp
  have h8 := hS.len8
  have hl1 := hS.len1
  have hpl := ph_len p
  have hb9 := hS.bases 0 (by omega)
  have hwp := withP_ph hS hP (w := 0) (by omega) hd
  have hwv : photoOk s (withP p 0 d).l = true := ph_valid hS (withP_ok hp (by omega) (by omega)) hwp
  have hm0 : maxLen = 9223372036854775807 := rfl
  refine Ex.regSeq (ExL.pures 0 rfl ?_)
  refine ExL.op rfl (op_box rfl rfl rfl rfl rfl (fun b1 => ?_))
  refine ExL.op rfl (op_alloc rfl rfl rfl rfl rfl (fun b2 => ?_))
  refine ExL.pures 1 rfl ?_
  refine ExL.nil ?_
  refine Ex.seq ?_
  refine Ex.regSeq (ExL.pures 1 rfl ?_)
  refine ExL.free (fr_loadN rfl rfl rfl rfl rfl (SegO.whole (i := 1) rfl)) rfl rfl rfl ?_
  refine ExL.op rfl (op_ret rfl rfl rfl (c_sValidPhoto s (by assumption) _ _ (by omega) p hp) (Reads.get (Reads.old hs)) rfl rfl (fun x3 hx3 => ?_))
  refine ExL.pures 1 rfl ?_
  refine ExL.nil ?_
  refine Ex.cond rfl (fun hb4 => ?_) (fun hb4 => ?_)
  · replace hb4 := nb_t hb4
    refine Ex.regSeq (ExL.pures 0 rfl ?_)
    refine ExL.free (fr_build rfl rfl rfl rfl) rfl rfl rfl ?_
    refine ExL.op rfl (op_storeC (i := 0) rfl rfl rfl rfl rfl rfl rfl rfl rfl rfl ?_)
    refine ExL.pures 1 rfl ?_
    refine ExL.nil ?_
    refine Ex.ret ?_
    refine RetQ.mk () rfl (.cell rfl (.many rfl rfl rfl (SegO.whole (i := 0) rfl)) (.tmp rfl .nil)) ((by first | exact t2 rfl rfl | (exfalso; omega) | (exfalso; simp_all; done))) [] (rfl) rfl (trivial)
  · replace hb4 := nb_f hb4
    refine Ex.skip ?_
    refine Ex.seq ?_
    refine Ex.regSeq (ExL.pures 2 rfl ?_)
    refine ExL.op rfl (op_ret rfl rfl rfl (c_l01Wheel0 s _ _ (by omega) (by omega)) (Reads.get (Reads.old hs)) rfl rfl (fun x5 hx5 => ?_))
    refine ExL.pures 5 rfl ?_
    refine ExL.free (fr_indexAddrF (Reads.old hs) (eI_len .u8) rfl rfl rfl rfl rfl rfl (by omega)) rfl rfl rfl ?_
    refine ExL.free (fr_load rfl rfl rfl rfl (cellJ (i := 0) (0) (Reads.old hs) (eI_len .u8) 0 0 rfl (by omega) (by omega) rfl)) rfl rfl rfl ?_
    refine ExL.free (by first | exact fr_conv64 rfl rfl rfl rfl (by omega) | exact fr_conv rfl rfl rfl rfl) rfl rfl rfl ?_
    refine ExL.free (by first | exact fr_sub64 rfl rfl rfl (by omega) | exact fr_sub rfl rfl rfl) rfl rfl rfl ?_
    refine ExL.op rfl (op_ret rfl rfl rfl (c_l00In _ _ _) (fun _ _ => trivial) rfl rfl (fun x6 hx6 => ?_))
    refine ExL.pures 2 rfl ?_
    refine ExL.nil ?_
    refine Ex.cond rfl (fun hb7 => ?_) (fun hb7 => ?_)
    · replace hb7 := nd_t hb7
      refine Ex.regSeq (ExL.pures 0 rfl ?_)
      refine ExL.free (fr_build rfl rfl rfl rfl) rfl rfl rfl ?_
      refine ExL.op rfl (op_storeC (i := 0) rfl rfl rfl rfl rfl rfl rfl rfl rfl rfl ?_)
      refine ExL.pures 1 rfl ?_
      refine ExL.nil ?_
      refine Ex.ret ?_
      refine RetQ.mk () rfl (.cell rfl (.many rfl rfl rfl (SegO.whole (i := 0) rfl)) (.tmp rfl .nil)) ((by first | exact t2 rfl rfl | (exfalso; omega) | (exfalso; simp_all; done))) [] (rfl) rfl (trivial)
    · replace hb7 := nd_f hb7
      refine Ex.skip ?_
      refine Ex.regSeq (ExL.pures 1 rfl ?_)
      refine ExL.free (fr_indexAddr_b (sz := 2) rfl rfl rfl rfl rfl (by omega)) rfl rfl rfl ?_
      refine ExL.free (fr_loadN rfl rfl rfl rfl rfl (segB (k := 0) (i := 1) rfl encMk_len zMk (by rw [ph_len]; decide))) rfl rfl rfl ?_
      refine ExL.pures 1 rfl ?_
      refine ExL.op rfl (op_ret rfl rfl rfl (c_l05Put (p.l.getD 0 zMk) (hp 0 (by omega)) _ (by omega)) (fun _ _ => trivial) rfl rfl (fun x8 hx8 => ?_))
      refine ExL.op rfl (op_alloc rfl rfl rfl rfl rfl (fun b9 => ?_))
      refine ExL.op rfl (op_storeC (i := 0) rfl rfl rfl rfl rfl rfl rfl rfl rfl rfl ?_)
      refine ExL.nil ?_
      refine Ex.seq ?_
      refine Ex.regSeq (ExL.pures 2 rfl ?_)
      refine ExL.nil ?_
      refine Ex.cond_f rfl ?_
      refine Ex.skip ?_
      refine Ex.regSeq (ExL.pures 1 rfl ?_)
      refine ExL.free (fr_loadN rfl rfl rfl rfl rfl (SegO.whole (i := 0) rfl)) rfl rfl rfl ?_
      refine ExL.free (fr_indexAddr_b (sz := 2) rfl rfl rfl rfl rfl (by omega)) rfl rfl rfl ?_
      refine ExL.op rfl (op_store (i := 2) rfl rfl rfl rfl rfl rfl rfl rfl (room encMk_len (xs := p.l) (k := 0) (by rw [ph_len]; omega) (by simp) rfl) rfl ?_)
      refine ExL.nil ?_
      refine Ex.seq ?_
      refine Ex.blkTo (i := 2) rfl (with_put (d := d) rfl (by first | rfl | simp)) ?_
      refine Ex.regSeq (ExL.pures 1 rfl ?_)
      refine ExL.op rfl (op_ret rfl rfl rfl (c_l05Ok s (by first | assumption | simp_all) _ _ (withP p 0 d) (withP_ok hp (by omega) (by omega)) _ _) (fun w hw => ⟨Reads.get (Reads.old hs) w hw, Reads.get (Reads.blk (i := 2) rfl) w hw⟩) rfl rfl (fun x10 hx10 => ?_))
      refine ExL.pures 1 rfl ?_
      refine ExL.nil ?_
      refine Ex.cond rfl (fun hb11 => ?_) (fun hb11 => ?_)
      · replace hb11 := nb_t hb11
        refine Ex.regSeq (ExL.pures 0 rfl ?_)
        refine ExL.free (fr_build rfl rfl rfl rfl) rfl rfl rfl ?_
        refine ExL.op rfl (op_storeC (i := 1) rfl rfl rfl rfl rfl rfl rfl rfl rfl rfl ?_)
        refine ExL.pures 1 rfl ?_
        refine ExL.nil ?_
        refine Ex.ret ?_
        refine RetQ.mk () rfl (.cell rfl (.many rfl rfl rfl (SegO.whole (i := 1) rfl)) (.tmp rfl .nil)) ((by first | exact t2 rfl rfl | (exfalso; omega) | (exfalso; simp_all; done))) [] (rfl) rfl (trivial)
      · replace hb11 := nb_f hb11
        refine Ex.skip ?_
        refine Ex.regSeq (ExL.pures 0 rfl ?_)
        refine ExL.free (fr_loadN rfl rfl rfl rfl rfl (SegO.whole (i := 2) rfl)) rfl rfl rfl ?_
        refine ExL.op rfl (op_storeC (i := 1) rfl rfl rfl rfl rfl rfl rfl rfl rfl rfl ?_)
        refine ExL.pures 1 rfl ?_
        refine ExL.nil ?_
        refine Ex.ret ?_
        refine RetQ.mk () rfl (.cell rfl (.many rfl rfl rfl (SegO.whole (i := 1) rfl)) (.tmp rfl .nil)) ((by first | exact t2 rfl rfl | (exfalso; omega) | (exfalso; simp_all; done))) [] (rfl) rfl (trivial)
end Go.Proofs.YtdgfalhfmboalaaGreatDoor

/- What these functions of the program hand back, each proved by walking its operations. -/
set_option linter.unusedVariables false
set_option linter.unusedSimpArgs false
set_option maxRecDepth 4000
namespace Go.Proofs.YtdgfalhfmboalaaGreatDoor
open Go Go.Sx Go.RowKit Go.W Go.Proofs
attribute [local irreducible] Ex ExL ExD Op1 Free RetQ MutQ Reads CellO SegO LoadsAs
theorem e_29 : Enters Tryz.prog 29 := Enters.of Tryz.func29 rfl
theorem c_P6Pick (code : List Int) (Ac : Option Addr) (cc : Nat) (hcl : code.length ≤ maxLen) (hcu : Nums 255 code) (n : Int) (hn : n ≤ 9223372036854775807) : Ret Tryz.prog 29 [.slice Ac code.length cc, .int .i64 n] (fun w => Rd w Ac (code.flatMap (eI .u8))) (fun x : Int => .int .i64 x) (fun x => []) (fun x => 0 ≤ x ∧ (x < n ∨ x = 0) ∧ x ≤ 65535) := by
  refine Ret.of e_29 Tryz.func29 rfl Tryz.ntmps29 rfl rfl (fun w hpre => ?_)
  have hcode := hpre.base
  have hm0 : maxLen = 9223372036854775807 := rfl
  refine Ex.regSeq (ExL.pures 1 rfl ?_)
  refine ExL.nil ?_
  refine Ex.regSeq (ExL.pures 1 rfl ?_)
  refine ExL.op rfl (op_ret rfl rfl rfl (c_l00From code _ _) (fun _ _ => trivial) rfl rfl (fun x1 hx1 => ?_))
  refine ExL.pures 1 rfl ?_
  refine ExL.op rfl (op_mut rfl rfl rfl (c_pick code _ _ (by omega) (by assumption) _ 0 _ (by omega) n (by omega)) (perm_at (i := 0) rfl) (hcode) rfl rfl (fun x2 hx2 => ?_))
  refine ExL.pures 1 rfl ?_
  refine ExL.nil ?_
  refine Ex.ret ?_
  refine RetQ.mk _ rfl (.tmp rfl .nil) (rfl) [] (rfl) rfl (by refine ⟨?_, ?_, ?_⟩ <;> omega)
theorem e_19 : Enters Tryz.prog 19 := Enters.of Tryz.func19 rfl
theorem c_SameNumbers (s : List Int) (As : Option Addr) (cs : Nat) (hls : s.length ≤ maxLen) (At : Option Addr) (ct : Nat) : Ret Tryz.prog 19 [.slice As s.length cs, .slice At s.length ct] (fun w => Rd w As (s.flatMap (eI .i64)) ∧ Rd w At (s.flatMap (eI .i64))) (fun x : Unit => .bool true) (fun x => []) (fun x => True) := by
  refine Ret.of e_19 Tryz.func19 rfl Tryz.ntmps19 rfl rfl (fun w hpre => ?_)
  have hs := hpre.1.base
  have ht := hpre.2.base
  have hm0 : maxLen = 9223372036854775807 := rfl
  refine Ex.regSeq (ExL.pures 1 rfl ?_)
  refine ExL.nil ?_
  refine Ex.regSeq (ExL.pures 2 rfl ?_)
  refine ExL.op rfl (op_ret rfl rfl rfl (c_l00Same s _ _ (by omega) s _ _ (by omega)) (fun w hw => ⟨Reads.get (Reads.old hs) w hw, Reads.get (Reads.old ht) w hw⟩) rfl rfl (fun x1 hx1 => ?_))
  refine ExL.pures 1 rfl ?_
  refine ExL.nil ?_
  refine Ex.ret ?_
  refine RetQ.mk () rfl (.tmp rfl .nil) (tB (by simp)) [] (rfl) rfl (trivial)
theorem eq_Photo (a : VPh) : EqOk Tryz.prog 10000 31 (.agg (encPh a).toArray) (.agg (encPh a).toArray) true :=
  EqOk.rowsSelf (d := 9999) encMk_len zMk rfl rfl rfl rfl rfl a.l rfl (fun m => EqOk.as (EqOk.ints (d := 9997) rfl rfl rfl rfl m.l m.l rfl rfl) (by simp))
theorem e_14 : Enters Tryz.prog 14 := Enters.of Tryz.func14 rfl
theorem c_SizeOf (s : List Int) (hv : validStack s = true) (hu : Nums 255 s) (As : Option Addr) (cs : Nat) : Ret Tryz.prog 14 [.slice As s.length cs] (fun w => Rd w As (s.flatMap (eI .u8))) (fun x : Unit => .tuple #[.int .i64 (size s), .int .i64 0]) (fun x => []) (fun x => True) := by
  refine Ret.of e_14 Tryz.func14 rfl Tryz.ntmps14 rfl rfl (fun w hpre => ?_)
  have hs := hpre.base
  have hS := stk hv
  have h8 := hS.len8
  have hm0 : maxLen = 9223372036854775807 := rfl
  refine Ex.regSeq (ExL.pures 2 rfl ?_)
  refine ExL.nil ?_
  refine Ex.seq ?_
  refine Ex.regSeq (ExL.pures 1 rfl ?_)
  refine ExL.op rfl (op_ret rfl rfl rfl (c_l01Ok _ (by assumption) _ _ (by first | assumption | omega | (unfold maxLen; omega))) (Reads.get (Reads.old hs)) rfl rfl (fun x1 hx1 => ?_))
  refine ExL.pures 1 rfl ?_
  refine ExL.nil ?_
  refine Ex.cond rfl (fun hb2 => ?_) (fun hb2 => ?_)
  · replace hb2 := nb_t hb2
    refine Ex.regSeq (ExL.pures 2 rfl ?_)
    refine ExL.nil ?_
    refine Ex.ret ?_
    refine RetQ.mk () rfl (.tmp rfl (.tmp rfl .nil)) (t2 (by first | rfl | (exfalso; simp_all; done)) (by first | rfl | (exfalso; simp_all; done))) [] (rfl) rfl (trivial)
  · replace hb2 := nb_f hb2
    refine Ex.skip ?_
    refine Ex.regSeq (ExL.pures 1 rfl ?_)
    refine ExL.op rfl (op_ret rfl rfl rfl (c_l01Size _ (by assumption) _ _ (by first | assumption | omega | (unfold maxLen; omega))) (Reads.get (Reads.old hs)) rfl rfl (fun x3 hx3 => ?_))
    refine ExL.pures 2 rfl ?_
    refine ExL.nil ?_
    refine Ex.ret ?_
    refine RetQ.mk () rfl (.tmp rfl (.tmp rfl .nil)) (t2 (by first | rfl | (exfalso; simp_all; done)) (by first | rfl | (exfalso; simp_all; done))) [] (rfl) rfl (trivial)
end Go.Proofs.YtdgfalhfmboalaaGreatDoor

/- What these functions of the program hand back, each proved by walking its operations. -/
set_option linter.unusedVariables false
set_option linter.unusedSimpArgs false
set_option maxRecDepth 4000
namespace Go.Proofs.YtdgfalhfmboalaaGreatDoor
open Go Go.Sx Go.RowKit Go.W Go.Proofs
attribute [local irreducible] Ex ExL ExD Op1 Free RetQ MutQ Reads CellO SegO LoadsAs
theorem e_75 : Enters Tryz.prog 75 := Enters.of Tryz.func75 rfl
theorem c_l05Of (s : List Int) (hv : validStack s = true) (As : Option Addr) (cs : Nat) (a : Dig) (ha : Nums 255 a.l) (hd0 : validDig s a.l = true) : Ret Tryz.prog 75 [.slice As s.length cs, .agg (encD a).toArray] (fun w => Rd w As (s.flatMap (eI .u8))) (fun x : Unit => .agg (encPh (phot (putW s a.l zPh.l s.length))).toArray) (fun x => []) (fun x => True) := by
  refine Ret.of e_75 Tryz.func75 rfl Tryz.ntmps75 rfl rfl (fun w hpre => ?_)
  have hs := hpre.base
  have hS := stk hv
  have h8 := hS.len8
  have hDg := digOk h8 ha hd0
  have hm0 : maxLen = 9223372036854775807 := rfl
  refine Ex.regSeq (ExL.pures 0 rfl ?_)
  refine ExL.op rfl (op_box rfl rfl rfl rfl rfl (fun b1 => ?_))
  refine ExL.op rfl (op_alloc rfl rfl rfl rfl rfl (fun b2 => ?_))
  refine ExL.nil ?_
  refine Ex.regSeq (ExL.pures 0 rfl ?_)
  refine ExL.free (fr_build rfl rfl rfl rfl) rfl rfl rfl ?_
  refine ExL.op rfl (op_alloc rfl rfl rfl rfl rfl (fun b3 => ?_))
  refine ExL.op rfl (op_storeC (i := 0) rfl rfl rfl rfl rfl rfl rfl rfl rfl rfl ?_)
  refine ExL.nil ?_
  refine Ex.seq ?_
  refine Ex.regSeq (ExL.pures 1 rfl ?_)
  refine ExL.nil ?_
  refine Ex.block ?_
  refine Ex.loopK (X := Nat) (fun k => [(6, .int .i64 k)]) (fun k => [.blk b3 ((putW s a.l zPh.l k).flatMap encMk) 31]) (fun k => k ≤ s.length) (fun k => s.length - k) 0 [(0, _), (3, _), (4, _), (5, _)] [_, _] 3 [0, 1, 2] ⟨rfl, trivial⟩ ⟨rfl, rfl, rfl, rfl, trivial⟩ (rfl) rfl (Nat.zero_le _) (fun k hI => ?_)
  have hI : k ≤ s.length := hI
  refine Ex.seq ?_
  refine Ex.regSeq (ExL.pures 3 rfl ?_)
  refine ExL.lss rfl rfl rfl rfl rfl rfl (fun h4 => ?_) (fun h4 => ?_)
  · refine ExL.nil ?_
    refine Ex.cond_t rfl ?_
    refine Ex.skip ?_
    refine Ex.seq ?_
    refine Ex.block ?_
    have hks : k < s.length := by omega
    have hdw := hDg k hks
    have hbw := hS.bases k hks
    have hpo := putW_ok (s := s) (d := a.l) (l := zPh.l) okMs_z (fun w hw => by have := hDg w hw; have := hS.bases w hw; omega) k hI
    have hpl : (putW s a.l zPh.l k).length = 8 := by rw [putW_len]; rfl
    refine Ex.drawM rfl ?_
    refine ExD.take (i := 0) rfl (by kernel_rfl) (pureVal_ok rfl) ((List.Sublist.refl _)) rfl rfl rfl ?_
    refine ExD.take (i := 1) rfl (by kernel_rfl) (pureVal_ok rfl) ((List.Sublist.refl _)) rfl rfl rfl ?_
    refine ExD.take (i := 2) rfl (by kernel_rfl) (fr_indexAddr_b (sz := 2) rfl rfl rfl rfl rfl (by omega)) ((List.Sublist.refl _)) rfl rfl rfl ?_
    refine ExD.take (i := 3) rfl (by kernel_rfl) (fr_loadN rfl rfl rfl rfl rfl (segB (i := 0) rfl encMk_len zMk (by rw [hpl]; omega))) ((List.Sublist.refl _)) rfl rfl rfl ?_
    refine ExD.take (i := 4) rfl (by kernel_rfl) (pureVal_ok rfl) ((List.Sublist.refl _)) rfl rfl rfl ?_
    refine ExD.take (i := 5) rfl (by kernel_rfl) (fr_indexAddr_b (sz := 1) rfl rfl rfl rfl rfl (by omega)) ((List.Sublist.refl _)) rfl rfl rfl ?_
    refine ExD.take (i := 6) rfl (by kernel_rfl) (fr_load rfl rfl rfl rfl (CellO.blk (i := 2) rfl (blkG (eI_len .u8) 0 rfl (by rw [dig_len]; omega) rfl))) ((List.Sublist.refl _)) rfl rfl rfl ?_
    refine ExD.take (i := 7) rfl (by kernel_rfl) (by first | exact fr_conv64 rfl rfl rfl rfl (by omega) | exact fr_conv rfl rfl rfl rfl) ((List.Sublist.refl _)) rfl rfl rfl ?_
    refine ExD.op (i := 8) rfl (by kernel_rfl) rfl (op_ret rfl rfl rfl (c_l05Put ((putW s a.l zPh.l k).getD k zMk) (hpo k) (a.l.getD k 0) (by omega)) (fun _ _ => trivial) rfl rfl (fun x5 hx5 => ⟨(List.Sublist.refl _), ?_⟩))
    refine ExD.take (i := 9) rfl (by kernel_rfl) (fr_indexAddr_b (sz := 2) rfl rfl rfl rfl rfl (by omega)) ((List.Sublist.refl _)) rfl rfl rfl ?_
    refine ExD.last (i := 10) rfl (by kernel_rfl) (by kernel_rfl) rfl (op_store (i := 0) rfl rfl rfl rfl rfl rfl rfl rfl (room encMk_len (k := k) (by rw [hpl]; omega) (by simp) rfl) rfl ?_)
    refine ExD.done (by kernel_rfl) ?_
    refine Ex.region (ExL.pures 1 rfl ?_)
    refine ExL.free (by first | exact fr_add64 rfl rfl rfl (by omega) | exact fr_add rfl rfl rfl) rfl rfl rfl ?_
    refine ExL.pures 1 rfl ?_
    refine ExL.nil ?_
    refine Hand.mk (k + 1) 3 [0, 1, 2] ⟨rfl, trivial⟩ ⟨rfl, rfl, rfl, rfl, trivial⟩ (pkB (putW_put (w := k) rfl (by omega) (by simp) rfl)) rfl (by omega) (by omega)
  · refine ExL.nil ?_
    refine Ex.cond_f rfl ?_
    refine Ex.exit ?_
    obtain rfl : k = s.length := (by omega)
    rw [← encPh_ph (l := (putW s a.l zPh.l s.length)) (by rw [putW_len]; rfl)]
    refine Ex.regSeq (ExL.pures 0 rfl ?_)
    refine ExL.free (fr_loadN rfl rfl rfl rfl rfl (SegO.whole (i := 0) rfl)) rfl rfl rfl ?_
    refine ExL.op rfl (op_storeC (i := 1) rfl rfl rfl rfl rfl rfl rfl rfl rfl rfl ?_)
    refine ExL.nil ?_
    refine Ex.ret ?_
    refine RetQ.mk () rfl (.cell rfl (.many rfl rfl rfl (SegO.whole (i := 1) rfl)) .nil) (rfl) [] (rfl) rfl (trivial)
theorem e_37 : Enters Tryz.prog 37 := Enters.of Tryz.func37 rfl
theorem c_l05Blurred (code : List Int) (Ac : Option Addr) (cc : Nat) (hcl : code.length ≤ maxLen) (hcu : Nums 255 code) (b : Nat) (at_ sd : Int) (hat : 0 ≤ at_ ∧ at_ ≤ 500000) (s : List Int) (hv : validStack s = true) (As : Option Addr) (cs : Nat) (a : Dig) (ha : Nums 255 a.l) (hd0 : validDig s a.l = true) : Mut Tryz.prog 37 [.pointer (some ⟨b, 0, none⟩), .slice As s.length cs, .agg (encD a).toArray] [.blk b [.slice Ac code.length cc, .int .i64 at_, .int .u64 sd] 105] (fun base w0 F => RdB base w0 Ac (code.flatMap (eI .u8)) ∧ RdB base w0 As (s.flatMap (eI .u8))) (fun x : (Int × Int) × VPh => .agg (encPh x.2).toArray) (fun x => [.blk b [.slice Ac code.length cc, .int .i64 x.1.1, .int .u64 x.1.2] 105]) (fun x => (OkPh x.2 ∧ photoOk s x.2.l = true ∧ showsM s x.2.l a.l = true) ∧ at_ ≤ x.1.1 ∧ x.1.1 ≤ at_ + 80) := by
  refine Mut.of e_37 Tryz.func37 rfl Tryz.ntmps37 rfl rfl (fun base w0 F hfr => ?_)
  have hcode := hfr.1
  have hs := hfr.2
  have hS := stk hv
  have h8 := hS.len8
  have hDg := digOk h8 ha hd0
  have hm0 : maxLen = 9223372036854775807 := rfl
  refine Ex.regSeq (ExL.pures 0 rfl ?_)
  refine ExL.op rfl (op_box rfl rfl rfl rfl rfl (fun b1 => ?_))
  refine ExL.op rfl (op_alloc rfl rfl rfl rfl rfl (fun b2 => ?_))
  refine ExL.nil ?_
  refine Ex.regSeq (ExL.pures 1 rfl ?_)
  refine ExL.free (fr_loadN rfl rfl rfl rfl rfl (SegO.whole (i := 1) rfl)) rfl rfl rfl ?_
  refine ExL.op rfl (op_ret rfl rfl rfl (c_l05Of s (by assumption) _ _ a (by assumption) (by assumption)) (Reads.get (Reads.old hs)) rfl rfl (fun x3 hx3 => ?_))
  refine ExL.op rfl (op_alloc rfl rfl rfl rfl rfl (fun b4 => ?_))
  refine ExL.op rfl (op_storeC (i := 0) rfl rfl rfl rfl rfl rfl rfl rfl rfl rfl ?_)
  refine ExL.nil ?_
  refine Ex.seq ?_
  refine Ex.regSeq (ExL.pures 1 rfl ?_)
  refine ExL.nil ?_
  refine Ex.block ?_
  refine Ex.loopK (X := BlS) (fun q => [(8, .int .i64 q.k)]) (fun q => [.blk b4 (q.l.flatMap encMk) 31, .blk b [.slice Ac code.length cc, .int .i64 q.at_, .int .u64 q.sd] 105]) (fun q => BlP s a.l q.l ∧ q.k ≤ s.length ∧ at_ ≤ q.at_ ∧ q.at_ ≤ at_ + 10 * (q.k : Int)) (fun q => s.length - q.k) (⟨(phot (putW s a.l zPh.l s.length)).l, at_, sd, 0⟩ : BlS) [(0, _), (1, _), (6, _), (7, _)] (_ :: F) 4 [0, 3, 1] ⟨rfl, trivial⟩ ⟨rfl, rfl, rfl, rfl, trivial⟩ (rfl) rfl ⟨BlP.of hS hDg, by dsimp only; omega, by dsimp only; omega, by dsimp only; omega⟩ (fun q hI => ?_)
  have hI : BlP s a.l q.l ∧ q.k ≤ s.length ∧ at_ ≤ q.at_ ∧ q.at_ ≤ at_ + 10 * (q.k : Int) := hI
  obtain ⟨hB, hks, hat1, hat2⟩ := hI
  refine Ex.seq ?_
  refine Ex.regSeq (ExL.pures 3 rfl ?_)
  refine ExL.lss rfl rfl rfl rfl rfl rfl (fun h5 => ?_) (fun h5 => ?_)
  · refine ExL.nil ?_
    refine Ex.cond_t rfl ?_
    refine Ex.skip ?_
    refine Ex.seq ?_
    refine Ex.block ?_
    have hkl : q.k < s.length := by omega
    have hbw := hS.bases q.k hkl
    refine Ex.regSeq (ExL.pures 1 rfl ?_)
    refine ExL.op rfl (op_mut rfl rfl rfl (c_pick code _ _ (by omega) (by assumption) _ q.at_ _ (by omega) 5 (by omega)) (perm_at (i := 1) rfl) (hcode) rfl rfl (fun x6 hx6 => ?_))
    refine ExL.nil ?_
    refine Ex.block ?_
    refine Ex.regSeq (ExL.pures 0 rfl ?_)
    refine ExL.eql rfl rfl rfl rfl rfl rfl (fun h7 => ?_) (fun h7 => ?_)
    · refine ExL.pures 1 rfl ?_
      refine ExL.nil ?_
      refine Ex.cond_t rfl ?_
      refine Ex.regSeq (ExL.pures 1 rfl ?_)
      refine ExL.op rfl (op_mut rfl rfl rfl (c_pick code _ _ (by omega) (by assumption) _ x6.2.1 _ (by omega) 3 (by omega)) (perm_at (i := 0) rfl) (hcode) rfl rfl (fun x8 hx8 => ?_))
      refine ExL.free (by first | exact fr_add64 rfl rfl rfl (by omega) | exact fr_add rfl rfl rfl) rfl rfl rfl ?_
      refine ExL.pures 1 rfl ?_
      refine ExL.nil ?_
      refine Ex.block ?_
      refine Ex.loopK (X := BlT) (fun r => [(9, .int .i64 r.j)]) (fun r => [.blk b4 (r.l.flatMap encMk) 31, .blk b [.slice Ac code.length cc, .int .i64 r.at_, .int .u64 r.sd] 105]) (fun r => BlP s a.l r.l ∧ 0 ≤ r.j ∧ at_ ≤ r.at_ ∧ r.at_ + 2 * r.j ≤ at_ + 10 * (q.k : Int) + 10) (fun r => r.j.toNat) (⟨q.l, x8.2.1, x8.2.2, (1 + x8.1)⟩ : BlT) [(0, _), (1, _), (6, _), (7, _), (8, _)] (_ :: F) 3 [1, 0, 2] ⟨rfl, trivial⟩ ⟨rfl, rfl, rfl, rfl, rfl, trivial⟩ (rfl) rfl ⟨hB, by dsimp only; omega, by dsimp only; omega, by dsimp only; omega⟩ (fun r hI => ?_)
      have hI : BlP s a.l r.l ∧ 0 ≤ r.j ∧ at_ ≤ r.at_ ∧ r.at_ + 2 * r.j ≤ at_ + 10 * (q.k : Int) + 10 := hI
      obtain ⟨hR, hj0, hat3, hat4⟩ := hI
      refine Ex.seq ?_
      refine Ex.regSeq (ExL.pures 1 rfl ?_)
      refine ExL.gtr rfl rfl rfl rfl rfl rfl (fun h9 => ?_) (fun h9 => ?_)
      · refine ExL.nil ?_
        refine Ex.cond_t rfl ?_
        refine Ex.skip ?_
        refine Ex.seq ?_
        refine Ex.block ?_
        refine Ex.drawI [0, 2] rfl rfl ?_
        refine ExD.take (i := 0) rfl (by kernel_rfl) (pureVal_ok rfl) ((List.Sublist.cons_cons _ (List.Sublist.cons _ (List.Sublist.cons_cons _ (List.nil_sublist _))))) rfl rfl rfl ?_
        refine ExD.take (i := 1) rfl (by kernel_rfl) (pureVal_ok rfl) ((List.Sublist.cons_cons _ (List.Sublist.cons _ (List.Sublist.cons_cons _ (List.nil_sublist _))))) rfl rfl rfl ?_
        refine ExD.take (i := 2) rfl (by kernel_rfl) (fr_indexAddr_b (sz := 2) rfl rfl rfl rfl rfl (by omega)) ((List.Sublist.cons_cons _ (List.Sublist.cons _ (List.Sublist.cons_cons _ (List.nil_sublist _))))) rfl rfl rfl ?_
        refine ExD.take (i := 3) rfl (by kernel_rfl) (fr_loadN rfl rfl rfl rfl rfl (segB (i := 0) rfl encMk_len zMk (by rw [hR.len]; omega))) ((List.Sublist.cons_cons _ (List.Sublist.cons _ (List.Sublist.cons_cons _ (List.nil_sublist _))))) rfl rfl rfl ?_
        refine ExD.take (i := 4) rfl (by kernel_rfl) (pureVal_ok rfl) ((List.Sublist.cons_cons _ (List.Sublist.cons _ (List.Sublist.cons_cons _ (List.nil_sublist _))))) rfl rfl rfl ?_
        refine ExD.take (i := 5) rfl (by kernel_rfl) (pureVal_ok rfl) ((List.Sublist.cons_cons _ (List.Sublist.cons _ (List.Sublist.cons_cons _ (List.nil_sublist _))))) rfl rfl rfl ?_
        refine ExD.take (i := 6) rfl (by kernel_rfl) (pureVal_ok rfl) ((List.Sublist.cons_cons _ (List.Sublist.cons _ (List.Sublist.cons_cons _ (List.nil_sublist _))))) rfl rfl rfl ?_
        refine ExD.take (i := 7) rfl (by kernel_rfl) (fr_indexAddrF (Reads.old hs) (eI_len .u8) rfl rfl rfl rfl rfl rfl (by omega)) ((List.Sublist.cons_cons _ (List.Sublist.cons _ (List.Sublist.cons_cons _ (List.nil_sublist _))))) rfl rfl rfl ?_
        refine ExD.take (i := 8) rfl (by kernel_rfl) (fr_load rfl rfl rfl rfl (by first | exact cellN (Reads.old hs) (eI_len .u8) 0 0 rfl (by omega) rfl | exact cellF (Reads.old hs) (eI_len .u8) 0 0 rfl (by omega) rfl)) ((List.Sublist.cons_cons _ (List.Sublist.cons _ (List.Sublist.cons_cons _ (List.nil_sublist _))))) rfl rfl rfl ?_
        refine ExD.take (i := 9) rfl (by kernel_rfl) (by first | exact fr_conv64 rfl rfl rfl rfl (by omega) | exact fr_conv rfl rfl rfl rfl) ((List.Sublist.cons_cons _ (List.Sublist.cons _ (List.Sublist.cons_cons _ (List.nil_sublist _))))) rfl rfl rfl ?_
        refine ExD.op (i := 10) rfl (by kernel_rfl) rfl (op_mut rfl rfl rfl (c_pick code _ _ (by omega) (by assumption) _ r.at_ _ (by omega) (s.getD q.k 0) (by omega)) (perm_at (i := 1) rfl) (hcode) rfl rfl (fun x10 hx10 => ⟨(List.Sublist.cons _ (List.Sublist.cons_cons _ (List.Sublist.cons_cons _ (List.nil_sublist _)))), ?_⟩))
        refine ExD.op (i := 11) rfl (by kernel_rfl) rfl (op_ret rfl rfl rfl (c_l05Put (r.l.getD q.k zMk) (hR.ok _) x10.1 (by omega)) (fun _ _ => trivial) rfl rfl (fun x11 hx11 => ⟨(List.Sublist.cons _ (List.Sublist.cons_cons _ (List.Sublist.cons_cons _ (List.nil_sublist _)))), ?_⟩))
        refine ExD.take (i := 12) rfl (by kernel_rfl) (fr_indexAddr_b (sz := 2) rfl rfl rfl rfl rfl (by omega)) ((List.Sublist.cons _ (List.Sublist.cons_cons _ (List.Sublist.cons_cons _ (List.nil_sublist _))))) rfl rfl rfl ?_
        refine ExD.last (i := 13) rfl (by kernel_rfl) (by kernel_rfl) rfl (op_store (i := 1) rfl rfl rfl rfl rfl rfl rfl rfl (room encMk_len (k := (↑q.k : Int).toNat) (by rw [hR.len]; omega) (by simp) rfl) rfl ?_)
        refine ExD.done (by kernel_rfl) ?_
        refine Ex.region (ExL.pures 1 rfl ?_)
        refine ExL.free (by first | exact fr_sub64 rfl rfl rfl (by omega) | exact fr_sub rfl rfl rfl) rfl rfl rfl ?_
        refine ExL.pures 1 rfl ?_
        refine ExL.nil ?_
        refine Hand.mk ((⟨(r.l.set q.k (putM (r.l.getD q.k zMk) (x10.1).toNat)), x10.2.1, x10.2.2, r.j - 1⟩ : BlT)) 3 [1, 0, 2] ⟨rfl, trivial⟩ ⟨rfl, rfl, rfl, rfl, rfl, trivial⟩ (by first | rfl | exact pkB (bl_put (by first | (rw [hB.len]; omega) | (rw [hR.len]; omega)) (by first | omega | (simp; done) | (simp; omega)) rfl)) rfl (⟨hR.put hS hDg (by omega) (by omega), by dsimp only; omega, by dsimp only; omega, by dsimp only; omega⟩) (by dsimp only; omega)
      · refine ExL.nil ?_
        refine Ex.cond_f rfl ?_
        refine Ex.exit ?_
        refine Ex.region (ExL.pures 1 rfl ?_)
        refine ExL.free (by first | exact fr_add64 rfl rfl rfl (by omega) | exact fr_add rfl rfl rfl) rfl rfl rfl ?_
        refine ExL.pures 1 rfl ?_
        refine ExL.nil ?_
        refine Hand.mk ((⟨r.l, r.at_, r.sd, q.k + 1⟩ : BlS)) 3 [0, 1, 2] ⟨rfl, trivial⟩ ⟨rfl, rfl, rfl, rfl, trivial⟩ (by first | rfl | exact pkB (bl_put (by first | (rw [hB.len]; omega) | (rw [hR.len]; omega)) (by first | omega | (simp; done) | (simp; omega)) rfl)) rfl (⟨hR, by dsimp only; omega, by dsimp only; omega, by dsimp only; push_cast; omega⟩) (by dsimp only; omega)
    · refine ExL.pures 1 rfl ?_
      refine ExL.nil ?_
      refine Ex.cond_f rfl ?_
      refine Ex.regSeq (ExL.pures 0 rfl ?_)
      refine ExL.eql rfl rfl rfl rfl rfl rfl (fun h12 => ?_) (fun h12 => ?_)
      · refine ExL.pures 1 rfl ?_
        refine ExL.nil ?_
        refine Ex.cond_t rfl ?_
        refine Ex.regSeq (ExL.pures 2 rfl ?_)
        refine ExL.free (fr_indexAddrF (Reads.old hs) (eI_len .u8) rfl rfl rfl rfl rfl rfl (by omega)) rfl rfl rfl ?_
        refine ExL.free (fr_load rfl rfl rfl rfl (by first | exact cellN (Reads.old hs) (eI_len .u8) 0 0 rfl (by omega) rfl | exact cellF (Reads.old hs) (eI_len .u8) 0 0 rfl (by omega) rfl)) rfl rfl rfl ?_
        refine ExL.leq rfl rfl rfl rfl rfl rfl (fun h13 => ?_) (fun h13 => ?_)
        · refine ExL.pures 2 rfl ?_
          refine ExL.op rfl (op_mut rfl rfl rfl (c_one code _ _ (by omega) (by assumption) _ x6.2.1 _ (by omega) 2 (by omega)) (perm_at (i := 0) rfl) (hcode) rfl rfl (fun x14 hx14 => ?_))
          refine ExL.pures 1 rfl ?_
          refine ExL.nil ?_
          refine Ex.cond rfl (fun hb15 => ?_) (fun hb15 => ?_)
          · refine Ex.region (ExL.pures 3 rfl ?_)
            refine ExL.free (fr_indexAddrF (Reads.old hs) (eI_len .u8) rfl rfl rfl rfl rfl rfl (by omega)) rfl rfl rfl ?_
            refine ExL.free (fr_load rfl rfl rfl rfl (by first | exact cellN (Reads.old hs) (eI_len .u8) 0 0 rfl (by omega) rfl | exact cellF (Reads.old hs) (eI_len .u8) 0 0 rfl (by omega) rfl)) rfl rfl rfl ?_
            refine ExL.op rfl (op_ret rfl rfl rfl (c_l05Full (s.getD q.k 0) (by omega)) (fun _ _ => trivial) rfl rfl (fun x16 hx16 => ?_))
            refine ExL.free (fr_indexAddr_b (sz := 2) rfl rfl rfl rfl rfl (by omega)) rfl rfl rfl ?_
            refine ExL.op rfl (op_store (i := 1) rfl rfl rfl rfl rfl rfl rfl rfl (room encMk_len (k := (↑q.k : Int).toNat) (by rw [hB.len]; omega) (by simp) rfl) rfl ?_)
            refine ExL.nil ?_
            refine Ex.region (ExL.pures 1 rfl ?_)
            refine ExL.free (by first | exact fr_add64 rfl rfl rfl (by omega) | exact fr_add rfl rfl rfl) rfl rfl rfl ?_
            refine ExL.pures 1 rfl ?_
            refine ExL.nil ?_
            refine Hand.mk ((⟨(q.l.set q.k (fullM ((s.getD q.k 0)).toNat)), x14.2.1, x14.2.2, q.k + 1⟩ : BlS)) 3 [1, 0, 2] ⟨rfl, trivial⟩ ⟨rfl, rfl, rfl, rfl, trivial⟩ (by first | rfl | exact pkB (bl_put (by first | (rw [hB.len]; omega) | (rw [hR.len]; omega)) (by first | omega | (simp; done) | (simp; omega)) rfl)) rfl (⟨(hB.full hS hDg (by omega)), by dsimp only; omega, by dsimp only; omega, by dsimp only; push_cast; omega⟩) (by dsimp only; omega)
          · refine Ex.skip ?_
            refine Ex.region (ExL.pures 1 rfl ?_)
            refine ExL.free (by first | exact fr_add64 rfl rfl rfl (by omega) | exact fr_add rfl rfl rfl) rfl rfl rfl ?_
            refine ExL.pures 1 rfl ?_
            refine ExL.nil ?_
            refine Hand.mk ((⟨q.l, x14.2.1, x14.2.2, q.k + 1⟩ : BlS)) 3 [1, 0, 2] ⟨rfl, trivial⟩ ⟨rfl, rfl, rfl, rfl, trivial⟩ (by first | rfl | exact pkB (bl_put (by first | (rw [hB.len]; omega) | (rw [hR.len]; omega)) (by first | omega | (simp; done) | (simp; omega)) rfl)) rfl (⟨hB, by dsimp only; omega, by dsimp only; omega, by dsimp only; push_cast; omega⟩) (by dsimp only; omega)
        · refine ExL.pures 4 rfl ?_
          refine ExL.nil ?_
          refine Ex.cond_f rfl ?_
          refine Ex.skip ?_
          refine Ex.region (ExL.pures 1 rfl ?_)
          refine ExL.free (by first | exact fr_add64 rfl rfl rfl (by omega) | exact fr_add rfl rfl rfl) rfl rfl rfl ?_
          refine ExL.pures 1 rfl ?_
          refine ExL.nil ?_
          refine Hand.mk ((⟨q.l, x6.2.1, x6.2.2, q.k + 1⟩ : BlS)) 3 [1, 0, 2] ⟨rfl, trivial⟩ ⟨rfl, rfl, rfl, rfl, trivial⟩ (by first | rfl | exact pkB (bl_put (by first | (rw [hB.len]; omega) | (rw [hR.len]; omega)) (by first | omega | (simp; done) | (simp; omega)) rfl)) rfl (⟨hB, by dsimp only; omega, by dsimp only; omega, by dsimp only; push_cast; omega⟩) (by dsimp only; omega)
      · refine ExL.pures 1 rfl ?_
        refine ExL.nil ?_
        refine Ex.cond_f rfl ?_
        refine Ex.skip ?_
        refine Ex.region (ExL.pures 1 rfl ?_)
        refine ExL.free (by first | exact fr_add64 rfl rfl rfl (by omega) | exact fr_add rfl rfl rfl) rfl rfl rfl ?_
        refine ExL.pures 1 rfl ?_
        refine ExL.nil ?_
        refine Hand.mk ((⟨q.l, x6.2.1, x6.2.2, q.k + 1⟩ : BlS)) 3 [1, 0, 2] ⟨rfl, trivial⟩ ⟨rfl, rfl, rfl, rfl, trivial⟩ (by first | rfl | exact pkB (bl_put (by first | (rw [hB.len]; omega) | (rw [hR.len]; omega)) (by first | omega | (simp; done) | (simp; omega)) rfl)) rfl (⟨hB, by dsimp only; omega, by dsimp only; omega, by dsimp only; push_cast; omega⟩) (by dsimp only; omega)
  · refine ExL.nil ?_
    refine Ex.cond_f rfl ?_
    refine Ex.exit ?_
    rw [← encPh_ph hB.len]
    refine Ex.regSeq (ExL.pures 0 rfl ?_)
    refine ExL.free (fr_loadN rfl rfl rfl rfl rfl (SegO.whole (i := 0) rfl)) rfl rfl rfl ?_
    refine ExL.op rfl (op_storeC (i := 2) rfl rfl rfl rfl rfl rfl rfl rfl rfl rfl ?_)
    refine ExL.nil ?_
    refine Ex.ret ?_
    refine MutQ.mk ((q.at_, q.sd), phot q.l) rfl (.cell rfl (.many rfl rfl rfl (SegO.whole (i := 2) rfl)) .nil) (rfl) 3 [1] (rfl) rfl (⟨hB.photo hS hDg, by dsimp only; omega, by dsimp only; omega⟩)
theorem e_7 : Enters Tryz.prog 7 := Enters.of Tryz.func7 rfl
theorem c_P6Photo (code : List Int) (Ac : Option Addr) (cc : Nat) (hcl : code.length ≤ maxLen) (hcu : Nums 255 code) (s : List Int) (hv : validStack s = true) (As : Option Addr) (cs : Nat) (hu : Nums 255 s) (v : Int) (hv0 : 0 ≤ v ∧ v < size s) : Ret Tryz.prog 7 [.slice Ac code.length cc, .slice As s.length cs, .int .i64 v] (fun w => Rd w Ac (code.flatMap (eI .u8)) ∧ Rd w As (s.flatMap (eI .u8))) (fun x : VPh => .agg (encPh x).toArray) (fun x => []) (fun x => OkPh x ∧ photoOk s x.l = true ∧ showsM s x.l (digs s v) = true) := by
  refine Ret.of e_7 Tryz.func7 rfl Tryz.ntmps7 rfl rfl (fun w hpre => ?_)
  have hcode := hpre.1.base
  have hs := hpre.2.base
  have hS := stk hv
  have h8 := hS.len8
  have hz1 := hS.size_
  have hz2 := hS.le
  have hdl : (dig (digs s v)).l = digs s v := dig_l (digs_len s v)
  have hd1 : Nums 255 (dig (digs s v)).l := by rw [hdl]; exact digs_num hS.bases
  have hd2 : validDig s (dig (digs s v)).l = true := by rw [hdl]; exact digs_valid hS
  have hm0 : maxLen = 9223372036854775807 := rfl
  refine Ex.regSeq (ExL.pures 0 rfl ?_)
  refine ExL.op rfl (op_alloc rfl rfl rfl rfl rfl (fun b1 => ?_))
  refine ExL.nil ?_
  refine Ex.regSeq (ExL.pures 1 rfl ?_)
  refine ExL.op rfl (op_ret rfl rfl rfl (c_l00From code _ _) (fun _ _ => trivial) rfl rfl (fun x2 hx2 => ?_))
  refine ExL.pures 3 rfl ?_
  refine ExL.op rfl (op_ret rfl rfl rfl (c_l01Of s (by first | assumption | simp_all) _ _ _ (by omega)) (Reads.get (Reads.old hs)) rfl rfl (fun x3 hx3 => ?_))
  refine ExL.op rfl (op_mut rfl rfl rfl (c_l05Blurred code _ _ (by omega) (by assumption) _ 0 _ (by omega) s (by assumption) _ _ (dig (digs s v)) (by assumption) (by assumption)) (perm_at (i := 0) rfl) (⟨hcode, hs⟩) rfl rfl (fun x4 hx4 => ?_))
  refine ExL.op rfl (op_storeC (i := 1) rfl rfl rfl rfl rfl rfl rfl rfl rfl rfl ?_)
  refine ExL.nil ?_
  refine Ex.ret ?_
  refine RetQ.mk x4.2 rfl (.cell rfl (.many rfl rfl rfl (SegO.whole (i := 1) rfl)) .nil) (rfl) [] (rfl) rfl (⟨hx4.1.1, hx4.1.2.1, by rw [← hdl]; exact hx4.1.2.2⟩)
end Go.Proofs.YtdgfalhfmboalaaGreatDoor

/- What these functions of the program hand back, each proved by walking its operations. -/
set_option linter.unusedVariables false
set_option linter.unusedSimpArgs false
set_option maxRecDepth 4000
namespace Go.Proofs.YtdgfalhfmboalaaGreatDoor
open Go Go.Sx Go.RowKit Go.W Go.Proofs
attribute [local irreducible] Ex ExL ExD Op1 Free RetQ MutQ Reads CellO SegO LoadsAs
theorem e_47 : Enters Tryz.prog 47 := Enters.of Tryz.func47 rfl
theorem c_Itoa (n : Int) (hn : -9223372036854775808 ≤ n ∧ n ≤ 9223372036854775807) : Ret Tryz.prog 47 [.int .i64 n] (fun w => TabO Tryz.prog w) (fun _ : Unit => sv (Lib.itoa n)) (fun _ => []) (fun _ => True) :=
  ⟨e_47, fun w ht => (Go.Proofs.Tryz.strconv_Itoa n hn.1 hn.2 w ht).mono (by rintro e w' ⟨rfl, q, os, rfl⟩; exact ⟨(), trivial, rfl, below_grw w q os, by simp, List.Pairwise.nil⟩)⟩
theorem e_10 : Enters Tryz.prog 10 := Enters.of Tryz.func10 rfl
set_option maxHeartbeats 1000000 in
theorem c_iPhotoText (s : List Int) (hu : Nums 255 s) (As : Option Addr) (cs : Nat) (hls : s.length ≤ maxLen) (p : VPh) (hp : OkPh p) : Ret Tryz.prog 10 [.slice As s.length cs, .agg (encPh p).toArray] (fun w => Rd w As (s.flatMap (eI .u8)) ∧ TabO Tryz.prog w) (fun x : Unit => sv (phTx s p)) (fun x => []) (fun x => True) := by
  refine Ret.of e_10 Tryz.func10 rfl Tryz.ntmps10 rfl rfl (fun w hpre => ?_)
  have hs := hpre.1.base
  have htab := hpre.2.base
  have hm0 : maxLen = 9223372036854775807 := rfl
  refine Ex.regSeq (ExL.pures 0 rfl ?_)
  refine ExL.op rfl (op_box rfl rfl rfl rfl rfl (fun b1 => ?_))
  refine ExL.pures 1 rfl ?_
  refine ExL.nil ?_
  refine Ex.seq ?_
  refine Ex.regSeq (ExL.pures 1 rfl ?_)
  refine ExL.free (fr_loadN rfl rfl rfl rfl rfl (SegO.whole (i := 0) rfl)) rfl rfl rfl ?_
  refine ExL.op rfl (op_ret rfl rfl rfl (c_iValidPhoto s (by assumption) _ _ (by omega) p hp) (Reads.get (Reads.old hs)) rfl rfl (fun x2 hx2 => ?_))
  refine ExL.pures 1 rfl ?_
  refine ExL.nil ?_
  refine Ex.cond rfl (fun hb3 => ?_) (fun hb3 => ?_)
  · replace hb3 := nb_t hb3
    refine Ex.regSeq (ExL.pures 1 rfl ?_)
    refine ExL.nil ?_
    refine Ex.ret ?_
    refine RetQ.mk () rfl (.tmp rfl .nil) (tS (by first | exact (phTx_f (by assumption)).symm | exact (phTx_t (by assumption)).symm)) [] (rfl) rfl (trivial)
  · replace hb3 := nb_f hb3
    refine Ex.skip ?_
    have hvp := (by assumption : validPh s p = true)
    obtain ⟨hvs, hS, hP⟩ := vph hp hvp
    have h8 := hS.len8
    refine Ex.regSeq (ExL.pures 0 rfl ?_)
    refine ExL.op rfl (op_buildSlice (sz := 1) rfl rfl rfl rfl rfl rfl rfl rfl (by decide) rfl rfl rfl (fun r4 => ?_))
    refine ExL.op rfl (op_alloc rfl rfl rfl rfl rfl (fun b5 => ?_))
    refine ExL.op rfl (op_storeC (i := 0) rfl rfl rfl rfl rfl rfl rfl rfl rfl rfl ?_)
    refine ExL.nil ?_
    refine ExT.seq ?_
    refine ExT.reg (ExL.pures 1 rfl ?_)
    refine ExL.op rfl (op_ret rfl rfl rfl (c_Back s _ _) (fun _ _ => trivial) rfl rfl (fun x6 hx6 => ?_))
    refine ExL.nil ?_
    refine Ex.rangeKX (X := Option Addr × Nat) (N := s.length) (encs := fun k => [.int .i64 ((s.length - 1 - k : Nat) : Int), .int .u8 (s.getD (s.length - 1 - k) 0)]) (fun k => [(6, .int .i64 ((s.length - 1 - k : Nat) : Int)), (7, .int .u8 (s.getD (s.length - 1 - k) 0))]) (fun k q => [.blk b5 [.slice q.1 k q.2] 69, .row (.slice q.1 k q.2) 9 1 k ((partsF (wpart s p.l) k).flatMap eSt)]) (fun k q => True) ((some ⟨r4, 0, none⟩), 0) [(3, _), (5, _)] [_] 4 [0, 1, 2, 3] rfl (c_back1X s As cs (by omega) _ _ _ hs) (fun _ => rfl) rfl rfl rfl (rfl) rfl (trivial) ⟨rfl, rfl, trivial⟩ (fun l k W q hk hI hW => ?_) (fun l k W q hk hI hW => ?_) (fun D W q hI hW => ?_)
    · have hs := hs.keep hW
      have htab := htab.keep hW
      refine Ex.regSeq (ExL.pures 1 rfl ?_)
      refine ExL.nil ?_
      refine Ex.region (ExL.pures 1 rfl ?_)
      refine ExL.nil ?_
      exact ⟨rfl, ⟨rfl, rfl, rfl, rfl, trivial⟩, rfl⟩
    · have hs := hs.keep hW
      have htab := htab.keep hW
      obtain ⟨j, hj⟩ : ∃ j : Nat, s.length - 1 - k = j := ⟨_, rfl⟩
      have hjs : j < s.length := by omega
      rw [hj]
      have hbj := hS.bases j hjs
      have hmj := hp j (by omega)
      have hlt := hP.lt j hjs
      have hw1 : cntM (p.l.getD j zMk) = s.getD j 0 → wpart s p.l k = [63] := fun h => by unfold wpart; rw [hj]; exact wheel_y hmj (by omega) hlt h
      have hw2 : ¬ cntM (p.l.getD j zMk) = s.getD j 0 → wpart s p.l k = Lib.join (strsP (digI (p.l.getD j zMk)) (digI (p.l.getD j zMk)).length) [124] := fun h => by unfold wpart; rw [hj, strs_join]; exact wheel_n hmj (by omega) hlt h
      have hdl := digI_len' (p.l.getD j zMk)
      refine Ex.block ?_
      refine Ex.seq ?_
      refine Ex.regSeq (ExL.pures 1 rfl ?_)
      refine ExL.free (fr_indexAddr_b (sz := 2) rfl rfl rfl rfl rfl (by omega)) rfl rfl rfl ?_
      refine ExL.free (fr_loadN rfl rfl rfl rfl rfl (segB (i := 3) rfl encMk_len zMk (by rw [ph_len]; omega))) rfl rfl rfl ?_
      refine ExL.op rfl (op_ret rfl rfl rfl (c_count (p.l.getD j zMk) (hp j (by omega))) (fun _ _ => trivial) rfl rfl (fun x7 hx7 => ?_))
      refine ExL.pures 1 rfl ?_
      refine ExL.free (by first | exact fr_conv64 rfl rfl rfl rfl (by omega) | exact fr_conv rfl rfl rfl rfl) rfl rfl rfl ?_
      refine ExL.eql rfl rfl rfl rfl rfl rfl (fun h8 => ?_) (fun h8 => ?_)
      · refine ExL.nil ?_
        refine Ex.cond_t rfl ?_
        refine Ex.regSeq (ExL.pures 0 rfl ?_)
        refine ExL.free (fr_load rfl rfl rfl rfl (CellO.blk (i := 1) rfl rfl)) rfl rfl rfl ?_
        refine ExL.op rfl (op_buildSlice (sz := 1) rfl rfl rfl rfl rfl rfl rfl rfl (by decide) rfl rfl rfl (fun r9 => ?_))
        refine ExL.op rfl (op_append (sz := 1) (bytes := 16) (i := 3) rfl rfl rfl rfl (Reads.row (i := 0) rfl) rfl (fun e => nomatch e) rfl rfl rfl rfl (by constructor <;> first | omega | (unfold maxLen; omega)) rfl rfl (fun A10 cA10 => ?_))
        refine ExL.op rfl (op_storeC (i := 2) rfl rfl rfl rfl rfl rfl rfl rfl rfl rfl ?_)
        refine ExL.nil ?_
        refine Ex.exit ?_
        exact ⟨rfl, (A10, cA10), 5, [1, 2, 3, 4], trivial, (by first | exact pk3R (by rw [partsF_s, List.flatMap_append, hw1 (by assumption)]; rfl) | exact pk3R (by rw [partsF_s, List.flatMap_append, hw3 (by assumption)]; rfl)), rfl⟩
      · refine ExL.nil ?_
        refine Ex.cond_f rfl ?_
        refine Ex.skip ?_
        refine Ex.regSeq (ExL.pures 0 rfl ?_)
        refine ExL.op rfl (op_buildSlice (sz := 1) rfl rfl rfl rfl rfl rfl rfl rfl (by decide) rfl rfl rfl (fun r12 => ?_))
        refine ExL.pures 1 rfl ?_
        refine ExL.nil ?_
        refine Ex.seq ?_
        refine Ex.regSeq (ExL.pures 1 rfl ?_)
        refine ExL.free (fr_indexAddr_b (sz := 2) rfl rfl rfl rfl rfl (by omega)) rfl rfl rfl ?_
        refine ExL.free (fr_loadN rfl rfl rfl rfl rfl (segB (i := 4) rfl encMk_len zMk (by rw [ph_len]; omega))) rfl rfl rfl ?_
        refine ExL.op rfl (op_ret rfl rfl rfl (c_digitsM (p.l.getD j zMk) (hp j (by omega))) (fun _ _ => trivial) rfl rfl (fun x13 hx13 => ?_))
        refine ExL.pures 2 rfl ?_
        refine ExL.nil ?_
        refine Ex.block ?_
        refine Ex.loopA (fun i A c => [(8, .slice A (strsP (digI (p.l.getD j zMk)) i).length c), (36, .int .i64 i)]) (fun i A c => [.row (.slice A (strsP (digI (p.l.getD j zMk)) i).length c) 9 1 (strsP (digI (p.l.getD j zMk)) i).length ((strsP (digI (p.l.getD j zMk)) i).flatMap eSt)]) (fun i => i ≤ (digI (p.l.getD j zMk)).length) (fun i => (digI (p.l.getD j zMk)).length - i) 0 ((some ⟨r12, 0, none⟩)) (0) [(5, _), (34, _), (35, _)] [_, _, _, _, _] 6 [1, 0, 2, 3, 4, 5] ⟨rfl, rfl, trivial⟩ ⟨rfl, rfl, rfl, trivial⟩ (rfl) rfl (Nat.zero_le _) (fun i A c hI => ?_)
        have hI : i ≤ (digI (p.l.getD j zMk)).length := hI
        refine Ex.regSeq (ExL.pures 0 rfl ?_)
        refine ExL.lss rfl rfl rfl rfl rfl rfl (fun h14 => ?_) (fun h14 => ?_)
        · refine ExL.nil ?_
          refine Ex.seq ?_
          refine Ex.cond_t rfl ?_
          refine Ex.skip ?_
          refine Ex.seq ?_
          refine Ex.block ?_
          have hil : i < (digI (p.l.getD j zMk)).length := by omega
          have hsl := strsP_len (l := digI (p.l.getD j zMk)) (k := i) (by omega)
          have hdb := digI_bd (p.l.getD j zMk) i
          refine Ex.regSeq (ExL.pures 0 rfl ?_)
          refine ExL.free (fr_indexAddrR (sz := 1) 1 rfl rfl rfl rfl rfl rfl (by omega)) rfl rfl rfl ?_
          refine ExL.free (fr_load rfl rfl rfl rfl (by first | exact cellN (Reads.row (i := 1) rfl) (eI_len .i64) 0 0 rfl (by omega) rfl | exact cellF (Reads.row (i := 1) rfl) (eI_len .i64) 0 0 rfl (by omega) rfl)) rfl rfl rfl ?_
          refine ExL.pures 1 rfl ?_
          refine ExL.nil ?_
          refine Ex.region (ExL.pures 2 rfl ?_)
          refine ExL.op rfl (op_ret rfl rfl rfl (c_Itoa ((digI (p.l.getD j zMk)).getD i 0) (by omega)) (fun w hw => TabB.get htab hw) rfl rfl (fun x15 hx15 => ?_))
          refine ExL.op rfl (op_buildSlice (sz := 1) rfl rfl rfl rfl rfl rfl rfl rfl (by decide) rfl rfl rfl (fun r16 => ?_))
          refine ExL.op rfl (op_append (sz := 1) (bytes := 16) (i := 1) rfl rfl rfl rfl (Reads.row (i := 0) rfl) rfl (fun e => nomatch e) rfl rfl rfl rfl (by constructor <;> first | omega | (unfold maxLen; omega)) rfl rfl (fun A17 cA17 => ?_))
          refine ExL.pures 1 rfl ?_
          refine ExL.nil ?_
          refine Ex.region (ExL.pures 0 rfl ?_)
          refine ExL.free (by first | exact fr_add64 rfl rfl rfl (by omega) | exact fr_add rfl rfl rfl) rfl rfl rfl ?_
          refine ExL.pures 1 rfl ?_
          refine ExL.nil ?_
          refine HandA.of (i + 1) (A17) (cA17) 7 [1, 2, 3, 4, 5, 6] ⟨(by rw [strsP_s hil, List.length_append]; rfl), rfl, trivial⟩ ⟨rfl, rfl, rfl, trivial⟩ (by rw [strsP_s hil, List.length_append, List.flatMap_append]; rfl) rfl (by omega) (by omega)
        · refine ExL.nil ?_
          refine Ex.seq ?_
          refine Ex.cond_f rfl ?_
          refine Ex.exit ?_
          have hin : i = (digI (p.l.getD j zMk)).length := by omega
          have hsl9 := strsP_len (l := digI (p.l.getD j zMk)) (k := i) (by omega)
          have hw3 : ¬ cntM (p.l.getD j zMk) = s.getD j 0 → wpart s p.l k = Lib.join (strsP (digI (p.l.getD j zMk)) i) [124] := fun h => by rw [hin]; exact hw2 h
          refine Ex.know (row_cap' (i := 0) rfl) (fun hcap1 => ?_)
          refine Ex.drawI [0, 1, 2, 3, 5] rfl rfl ?_
          refine ExD.take (i := 0) rfl (by kernel_rfl) (fr_load rfl rfl rfl rfl (CellO.blk (i := 3) rfl rfl)) ((List.Sublist.cons_cons _ (List.Sublist.cons_cons _ (List.Sublist.cons_cons _ (List.Sublist.cons_cons _ (List.Sublist.cons _ (List.Sublist.refl _))))))) rfl rfl rfl ?_
          refine ExD.take (i := 1) rfl (by kernel_rfl) (pureVal_ok rfl) ((List.Sublist.cons_cons _ (List.Sublist.cons_cons _ (List.Sublist.cons_cons _ (List.Sublist.cons_cons _ (List.Sublist.cons _ (List.Sublist.refl _))))))) rfl rfl rfl ?_
          refine ExD.op (i := 2) rfl (by kernel_rfl) rfl (op_ret rfl rfl rfl (c_Join (strsP (digI (p.l.getD j zMk)) i) _ rfl _ _ [124] hcap1 (by omega) (by rw [hin, strs_join]; have := marksT_le (m := (p.l.getD j zMk)) (k := 128) (by omega); omega)) (Reads.get (Reads.row (i := 0) rfl)) rfl rfl (fun x19 hx19 => ⟨(List.Sublist.cons_cons _ (List.Sublist.cons_cons _ (List.Sublist.cons_cons _ (List.Sublist.cons_cons _ (List.Sublist.cons _ (List.Sublist.refl _)))))), ?_⟩))
          refine ExD.op (i := 3) rfl (by kernel_rfl) rfl (op_buildSlice (sz := 1) rfl rfl rfl rfl rfl rfl rfl rfl (by decide) rfl rfl rfl (fun r20 => ⟨(List.Sublist.cons _ (List.Sublist.cons_cons _ (List.Sublist.cons_cons _ (List.Sublist.cons_cons _ (List.Sublist.cons_cons _ (List.Sublist.cons _ (List.Sublist.refl _))))))), ?_⟩))
          refine ExD.op (i := 4) rfl (by kernel_rfl) rfl (op_append (sz := 1) (bytes := 16) (i := 5) rfl rfl rfl rfl (Reads.row (i := 0) rfl) rfl (fun e => nomatch e) rfl rfl rfl rfl (by constructor <;> first | omega | (unfold maxLen; omega)) rfl rfl (fun A21 cA21 => ⟨(List.Sublist.cons _ (List.Sublist.cons_cons _ (List.Sublist.cons_cons _ (List.Sublist.cons_cons _ (List.Sublist.cons_cons _ (List.Sublist.cons _ (List.Sublist.refl _))))))), ?_⟩))
          refine ExD.last (i := 5) rfl (by kernel_rfl) (by kernel_rfl) rfl (op_storeC (i := 4) rfl rfl rfl rfl rfl rfl rfl rfl rfl rfl ?_)
          refine ExD.done (by kernel_rfl) ?_
          exact ⟨rfl, (A21, cA21), 7, [3, 4, 5, 6], trivial, (by first | exact pk3R (by rw [partsF_s, List.flatMap_append, hw1 (by assumption)]; rfl) | exact pk3R (by rw [partsF_s, List.flatMap_append, hw3 (by assumption)]; rfl)), rfl⟩
    · have hs := hs.keep hW
      have htab := htab.keep hW
      refine Ex.know (row_cap' (i := 2) rfl) (fun hcap => ?_)
      have hpl := partsF_len (wpart s p.l) s.length
      refine Ex.regSeq (ExL.pures 0 rfl ?_)
      refine ExL.free (fr_load rfl rfl rfl rfl (CellO.blk (i := 1) rfl rfl)) rfl rfl rfl ?_
      refine ExL.op rfl (op_ret rfl rfl rfl (c_Join (partsF (wpart s p.l) s.length) _ hpl _ _ [58] hcap (by omega) (Nat.le_trans (phT_le hS) (by decide))) (Reads.get (Reads.row (i := 2) rfl)) rfl rfl (fun x23 hx23 => ?_))
      refine ExL.pures 1 rfl ?_
      refine ExL.nil ?_
      refine Ex.ret ?_
      refine ⟨rfl, ?_⟩
      refine RetQ.mk () rfl (.tmp rfl .nil) (tS (by first | exact (phTx_f (by assumption)).symm | exact (phTx_t (by assumption)).symm)) [] (rfl) rfl (trivial)
end Go.Proofs.YtdgfalhfmboalaaGreatDoor

/- What these functions of the program hand back, each proved by walking its operations. -/
set_option linter.unusedVariables false
set_option linter.unusedSimpArgs false
set_option maxRecDepth 4000
namespace Go.Proofs.YtdgfalhfmboalaaGreatDoor
open Go Go.Sx Go.RowKit Go.W Go.Proofs
attribute [local irreducible] Ex ExL ExD Op1 Free RetQ MutQ Reads CellO SegO LoadsAs
theorem e_43 : Enters Tryz.prog 43 := Enters.of Tryz.func43 rfl
set_option maxHeartbeats 1000000 in
theorem c_readMarks (t : List UInt8) (b : Int) (hb : 2 ≤ b ∧ b ≤ 100) (hl : t.length ≤ 1048576) : Ret Tryz.prog 43 [sv t, .int .i64 b] (fun w => RdO 0 1 2 w) (fun x : VMk × Bool => .tuple #[.agg (encMk x.1).toArray, .bool x.2]) (fun x => []) (fun x => RdI b t x) := by
  refine Ret.of e_43 Tryz.func43 rfl Tryz.ntmps43 rfl rfl (fun w hpre => ?_)
  have hrd := hpre
  have hpp := splitA_pos 124 t
  have hpn := splitA_len 124 t []
  have hm0 : maxLen = 9223372036854775807 := rfl
  refine Ex.regSeq (ExL.pures 0 rfl ?_)
  refine ExL.op rfl (op_alloc rfl rfl rfl rfl rfl (fun b1 => ?_))
  refine ExL.pures 1 rfl ?_
  refine ExL.nil ?_
  refine Ex.seq ?_
  refine Ex.regSeq (ExL.pures 1 rfl ?_)
  refine ExL.free (fr_eqlS (l := t) (r := [63]) rfl rfl rfl) rfl rfl rfl ?_
  refine ExL.nil ?_
  refine Ex.cond rfl (fun hb2 => ?_) (fun hb2 => ?_)
  · replace hb2 := of_decide_eq_true hb2
    refine Ex.regSeq (ExL.pures 1 rfl ?_)
    refine ExL.op rfl (op_ret rfl rfl rfl (c_below b (by omega)) (fun _ _ => trivial) rfl rfl (fun x3 hx3 => ?_))
    refine ExL.op rfl (op_storeC (i := 0) rfl rfl rfl rfl rfl rfl rfl rfl rfl rfl ?_)
    refine ExL.pures 1 rfl ?_
    refine ExL.nil ?_
    refine Ex.ret ?_
    refine RetQ.mk (fullM b.toNat, true) rfl (.cell rfl (.many rfl rfl rfl (SegO.whole (i := 0) rfl)) (.tmp rfl .nil)) (rfl) [] (rfl) rfl (rdI_q hb (by assumption))
  · replace hb2 := of_decide_eq_false hb2
    refine Ex.skip ?_
    refine Ex.regSeq (ExL.pures 0 rfl ?_)
    refine ExL.free (fr_build rfl rfl rfl rfl) rfl rfl rfl ?_
    refine ExL.op rfl (op_alloc rfl rfl rfl rfl rfl (fun b4 => ?_))
    refine ExL.op rfl (op_storeC (i := 0) rfl rfl rfl rfl rfl rfl rfl rfl rfl rfl ?_)
    refine ExL.nil ?_
    refine Ex.seq ?_
    refine Ex.regSeq (ExL.pures 1 rfl ?_)
    refine ExL.op rfl (op_ret rfl rfl rfl (c_Split t 124 (by omega)) (fun w hw => RdO.keep hrd hw) rfl rfl (fun x5 hx5 => ?_))
    refine ExL.pures 2 rfl ?_
    refine ExL.nil ?_
    refine Ex.block ?_
    refine Ex.loopK (X := WhS) (fun q => [(19, .int .i64 q.k)]) (fun q => [.blk b4 (encMk q.m) 29]) (fun q => q.k ≤ (splitA 124 [] t).length ∧ MkI t q.k q.m) (fun q => (splitA 124 [] t).length - q.k) (⟨0, zMk, 0⟩ : WhS) [(4, _), (6, _), (17, _), (18, _)] [_, _] 3 [1, 0, 2] ⟨rfl, trivial⟩ ⟨rfl, rfl, rfl, rfl, trivial⟩ (rfl) rfl ⟨Nat.zero_le _, mkI_0 t⟩ (fun q hI => ?_)
    have hI : q.k ≤ (splitA 124 [] t).length ∧ MkI t q.k q.m := hI
    obtain ⟨hqk, hqi⟩ := hI
    refine Ex.regSeq (ExL.pures 0 rfl ?_)
    refine ExL.lss rfl rfl rfl rfl rfl rfl (fun h6 => ?_) (fun h6 => ?_)
    · refine ExL.nil ?_
      refine Ex.seq ?_
      refine Ex.cond_t rfl ?_
      refine Ex.skip ?_
      refine Ex.seq ?_
      refine Ex.block ?_
      have hpl := piece_le 124 t q.k
      refine Ex.regSeq (ExL.pures 0 rfl ?_)
      refine ExL.free (fr_indexAddr (sz := 1) rfl rfl rfl rfl rfl rfl (by omega)) rfl rfl rfl ?_
      refine ExL.free (fr_load rfl rfl rfl rfl (by first | exact cellN (Reads.row (i := 1) rfl) eSt_len ([] : List UInt8) 0 rfl (by omega) rfl | exact cellF (Reads.row (i := 1) rfl) eSt_len ([] : List UInt8) 0 rfl (by omega) rfl)) rfl rfl rfl ?_
      refine ExL.pures 1 rfl ?_
      refine ExL.nil ?_
      refine Ex.regSeq (ExL.pures 1 rfl ?_)
      refine ExL.op rfl (op_ret rfl rfl rfl (c_ParseUint ((splitA 124 [] t).getD q.k []) (by omega)) (fun w hw => RdO.keep hrd hw) rfl rfl (fun x7 hx7 => ?_))
      have hbx7 : 0 ≤ x7.1 ∧ x7.1 ≤ 127 := hx7.1
      refine ExL.pures 5 rfl ?_
      refine ExL.nil ?_
      refine Ex.seq ?_
      refine Ex.regSeq (ExL.pures 1 rfl ?_)
      refine ExL.free (fr_neq_err rfl rfl rfl rfl) rfl rfl rfl ?_
      refine ExL.nil ?_
      refine Ex.cond rfl (fun hb8 => ?_) (fun hb8 => ?_)
      · replace hb8 := nb_t hb8
        refine Ex.regSeq (ExL.pures 0 rfl ?_)
        refine ExL.free (fr_build rfl rfl rfl rfl) rfl rfl rfl ?_
        refine ExL.op rfl (op_storeC (i := 2) rfl rfl rfl rfl rfl rfl rfl rfl rfl rfl ?_)
        refine ExL.pures 1 rfl ?_
        refine ExL.nil ?_
        refine Ex.ret ?_
        refine RetQ.mk (zMk, false) rfl (.cell rfl (.many rfl rfl rfl (SegO.whole (i := 2) rfl)) (.tmp rfl .nil)) (rfl) [] (rfl) rfl (rdI_no hb (by assumption) (k := q.k) (by omega) (hx7.2.2 (by assumption)))
      · replace hb8 := nb_f hb8
        refine Ex.skip ?_
        refine Ex.region (ExL.pures 0 rfl ?_)
        refine ExL.free (fr_loadN rfl rfl rfl rfl rfl (SegO.whole (i := 0) rfl)) rfl rfl rfl ?_
        refine ExL.pures 1 rfl ?_
        refine ExL.free (by first | exact fr_conv64 rfl rfl rfl rfl (by omega) | exact fr_conv rfl rfl rfl rfl) rfl rfl rfl ?_
        refine ExL.op rfl (op_ret rfl rfl rfl (c_with q.m hqi.1 x7.1 (by omega)) (fun _ _ => trivial) rfl rfl (fun x9 hx9 => ?_))
        refine ExL.op rfl (op_storeC (i := 0) rfl rfl rfl rfl rfl rfl rfl rfl rfl rfl ?_)
        refine ExL.nil ?_
        refine Ex.region (ExL.pures 0 rfl ?_)
        refine ExL.free (by first | exact fr_add64 rfl rfl rfl (by omega) | exact fr_add rfl rfl rfl) rfl rfl rfl ?_
        refine ExL.pures 1 rfl ?_
        refine ExL.nil ?_
        refine Hand.mk (⟨q.k + 1, putM q.m (x7.1).toNat, 0⟩ : WhS) 3 [0, 1, 2] ⟨rfl, trivial⟩ ⟨rfl, rfl, rfl, rfl, trivial⟩ (rfl) rfl (⟨by dsimp only; omega, mkI_s hqi (hx7.2.1 (by assumption))⟩) (by dsimp only; omega)
    · refine ExL.nil ?_
      refine Ex.seq ?_
      refine Ex.cond_f rfl ?_
      refine Ex.exit ?_
      refine Ex.regSeq (ExL.pures 0 rfl ?_)
      refine ExL.free (fr_loadN rfl rfl rfl rfl rfl (SegO.whole (i := 0) rfl)) rfl rfl rfl ?_
      refine ExL.op rfl (op_storeC (i := 2) rfl rfl rfl rfl rfl rfl rfl rfl rfl rfl ?_)
      refine ExL.pures 1 rfl ?_
      refine ExL.nil ?_
      refine Ex.ret ?_
      refine RetQ.mk (q.m, true) rfl (.cell rfl (.many rfl rfl rfl (SegO.whole (i := 2) rfl)) (.tmp rfl .nil)) (rfl) [] (rfl) rfl (rdI_end (by assumption) (k := q.k) (by omega) hqi)
theorem e_9 : Enters Tryz.prog 9 := Enters.of Tryz.func9 rfl
set_option maxHeartbeats 1000000 in
theorem c_iReadPhoto (s : List Int) (hu : Nums 255 s) (As : Option Addr) (cs : Nat) (hls : s.length ≤ maxLen) (t : List UInt8) (hl : t.length ≤ 1048576) : Ret Tryz.prog 9 [.slice As s.length cs, sv t] (fun w => Rd w As (s.flatMap (eI .u8)) ∧ RdO 0 1 2 w ∧ TabO Tryz.prog w) (fun x : VPh × Int => .tuple #[.agg (encPh x.1).toArray, .int .i64 x.2]) (fun x => []) (fun x => RdPh s t x) := by
  refine Ret.of e_9 Tryz.func9 rfl Tryz.ntmps9 rfl rfl (fun w hpre => ?_)
  have hs := hpre.1.base
  have hrd := hpre.2.1
  have htab := hpre.2.2
  have hpn := splitA_len 58 t []
  have hm0 : maxLen = 9223372036854775807 := rfl
  refine Ex.regSeq (ExL.pures 0 rfl ?_)
  refine ExL.op rfl (op_alloc rfl rfl rfl rfl rfl (fun b1 => ?_))
  refine ExL.pures 1 rfl ?_
  refine ExL.nil ?_
  refine Ex.seq ?_
  refine Ex.regSeq (ExL.pures 1 rfl ?_)
  refine ExL.op rfl (op_ret rfl rfl rfl (c_ValidStack _ (by assumption) _ _ (by first | assumption | omega | (unfold maxLen; omega))) (Reads.get (Reads.old hs)) rfl rfl (fun x2 hx2 => ?_))
  refine ExL.pures 1 rfl ?_
  refine ExL.nil ?_
  refine Ex.cond rfl (fun hb3 => ?_) (fun hb3 => ?_)
  · replace hb3 := nb_t hb3
    refine Ex.regSeq (ExL.pures 0 rfl ?_)
    refine ExL.free (fr_build rfl rfl rfl rfl) rfl rfl rfl ?_
    refine ExL.op rfl (op_storeC (i := 0) rfl rfl rfl rfl rfl rfl rfl rfl rfl rfl ?_)
    refine ExL.pures 1 rfl ?_
    refine ExL.nil ?_
    refine Ex.ret ?_
    refine RetQ.mk (zPh, 1) rfl (.cell rfl (.many rfl rfl rfl (SegO.whole (i := 0) rfl)) (.tmp rfl .nil)) (rfl) [] (rfl) rfl (rdPh_v (by assumption))
  · replace hb3 := nb_f hb3
    refine Ex.skip ?_
    have hv := (by assumption : validStack s = true)
    have hS := stk hv
    have h8 := hS.len8
    refine Ex.regSeq (ExL.pures 0 rfl ?_)
    refine ExL.free (fr_build rfl rfl rfl rfl) rfl rfl rfl ?_
    refine ExL.pures 1 rfl ?_
    refine ExL.op rfl (op_ret rfl rfl rfl (c_Split t 58 (by omega)) (fun w hw => RdO.keep hrd hw) rfl rfl (fun x4 hx4 => ?_))
    refine ExL.op rfl (op_alloc rfl rfl rfl rfl rfl (fun b5 => ?_))
    refine ExL.op rfl (op_storeC (i := 0) rfl rfl rfl rfl rfl rfl rfl rfl rfl rfl ?_)
    refine ExL.pures 1 rfl ?_
    refine ExL.nil ?_
    refine Ex.seq ?_
    refine Ex.regSeq (ExL.pures 4 rfl ?_)
    refine ExL.neq rfl rfl rfl rfl rfl rfl (fun h6 => ?_) (fun h6 => ?_)
    · refine ExL.nil ?_
      refine Ex.cond_t rfl ?_
      refine Ex.regSeq (ExL.pures 0 rfl ?_)
      refine ExL.free (fr_build rfl rfl rfl rfl) rfl rfl rfl ?_
      refine ExL.op rfl (op_storeC (i := 2) rfl rfl rfl rfl rfl rfl rfl rfl rfl rfl ?_)
      refine ExL.pures 1 rfl ?_
      refine ExL.nil ?_
      refine Ex.ret ?_
      refine RetQ.mk (zPh, 5) rfl (.cell rfl (.many rfl rfl rfl (SegO.whole (i := 2) rfl)) (.tmp rfl .nil)) (rfl) [] (rfl) rfl (rdPh_no hv (nph_len hS (by omega)))
    · refine ExL.nil ?_
      refine Ex.cond_f rfl ?_
      refine Ex.skip ?_
      refine Ex.seq ?_
      refine Ex.regSeq (ExL.pures 3 rfl ?_)
      refine ExL.nil ?_
      refine Ex.block ?_
      refine Ex.loopK (X := PhS) (fun q => [(28, .int .i64 q.k)]) (fun q => [.blk b5 (q.l.flatMap encMk) 31]) (fun q => q.k ≤ s.length ∧ q.l.length = 8 ∧ OkL q.l ∧ PhU s t q.l q.k) (fun q => s.length - q.k) (⟨0, zer8⟩ : PhS) [(0, _), (1, _), (4, _), (6, _), (26, _), (27, _)] [_, _] 3 [0, 1, 2] ⟨rfl, trivial⟩ ⟨rfl, rfl, rfl, rfl, rfl, rfl, trivial⟩ (rfl) rfl ⟨Nat.zero_le _, rfl, okL_0, phU_0 s t⟩ (fun q hI => ?_)
      have hI : q.k ≤ s.length ∧ q.l.length = 8 ∧ OkL q.l ∧ PhU s t q.l q.k := hI
      obtain ⟨hqk, h8q, hqo, hqb⟩ := hI
      refine Ex.regSeq (ExL.pures 0 rfl ?_)
      refine ExL.lss rfl rfl rfl rfl rfl rfl (fun h7 => ?_) (fun h7 => ?_)
      · refine ExL.nil ?_
        refine Ex.seq ?_
        refine Ex.cond_t rfl ?_
        refine Ex.skip ?_
        refine Ex.seq ?_
        refine Ex.block ?_
        have hwl := piece_le 58 t q.k
        refine Ex.regSeq (ExL.pures 1 rfl ?_)
        refine ExL.free (fr_indexAddr (sz := 1) rfl rfl rfl rfl rfl rfl (by omega)) rfl rfl rfl ?_
        refine ExL.free (fr_load rfl rfl rfl rfl (by first | exact cellN (Reads.row (i := 1) rfl) eSt_len ([] : List UInt8) 0 rfl (by omega) rfl | exact cellF (Reads.row (i := 1) rfl) eSt_len ([] : List UInt8) 0 rfl (by omega) rfl)) rfl rfl rfl ?_
        refine ExL.pures 2 rfl ?_
        refine ExL.nil ?_
        obtain ⟨j, hj⟩ : ∃ j : Nat, (s.length : Int) - 1 - q.k = (j : Int) := ⟨s.length - 1 - q.k, by omega⟩
        have hjj : s.length - 1 - q.k = j := by omega
        have hsj := hS.bases j (by omega)
        refine Ex.regSeq (ExL.pures 2 rfl ?_)
        refine ExL.free (by first | exact fr_sub64 rfl rfl rfl (by omega) | exact fr_sub rfl rfl rfl) rfl rfl rfl ?_
        refine ExL.pures 1 rfl ?_
        refine ExL.free (fr_sub64J j rfl rfl rfl hj (by omega)) rfl rfl rfl ?_
        refine ExL.pures 1 rfl ?_
        refine ExL.nil ?_
        refine Ex.regSeq (ExL.pures 3 rfl ?_)
        refine ExL.free (fr_indexAddrF (Reads.old hs) (eI_len .u8) rfl rfl rfl rfl rfl rfl (by omega)) rfl rfl rfl ?_
        refine ExL.free (fr_load rfl rfl rfl rfl (by first | exact cellN (Reads.old hs) (eI_len .u8) 0 0 rfl (by omega) rfl | exact cellF (Reads.old hs) (eI_len .u8) 0 0 rfl (by omega) rfl)) rfl rfl rfl ?_
        refine ExL.free (by first | exact fr_conv64 rfl rfl rfl rfl (by omega) | exact fr_conv rfl rfl rfl rfl) rfl rfl rfl ?_
        refine ExL.op rfl (op_ret rfl rfl rfl (c_readMarks ((splitA 58 [] t).getD q.k []) (s.getD j 0) (by omega) (by omega)) (fun w hw => RdO.keep hrd hw) rfl rfl (fun x8 hx8 => ?_))
        refine ExL.pures 3 rfl ?_
        refine ExL.op rfl (op_alloc rfl rfl rfl rfl rfl (fun b9 => ?_))
        refine ExL.op rfl (op_storeC (i := 0) rfl rfl rfl rfl rfl rfl rfl rfl rfl rfl ?_)
        refine ExL.pures 1 rfl ?_
        refine ExL.nil ?_
        refine Ex.seq ?_
        refine Ex.regSeq (ExL.pures 2 rfl ?_)
        refine ExL.nil ?_
        refine Ex.cond rfl (fun hb10 => ?_) (fun hb10 => ?_)
        · replace hb10 := nb_t hb10
          refine Ex.regSeq (ExL.pures 0 rfl ?_)
          refine ExL.free (fr_build rfl rfl rfl rfl) rfl rfl rfl ?_
          refine ExL.op rfl (op_storeC (i := 3) rfl rfl rfl rfl rfl rfl rfl rfl rfl rfl ?_)
          refine ExL.pures 1 rfl ?_
          refine ExL.nil ?_
          refine Ex.ret ?_
          refine RetQ.mk (zPh, 5) rfl (.cell rfl (.many rfl rfl rfl (SegO.whole (i := 3) rfl)) (.tmp rfl .nil)) (rfl) [] (rfl) rfl (rdPh_no hv (nph_w (j := j) (by omega) (by rw [show s.length - 1 - j = q.k by omega]; exact hx8.2.2 (by assumption))))
        · replace hb10 := nb_f hb10
          refine Ex.skip ?_
          refine Ex.region (ExL.pures 1 rfl ?_)
          refine ExL.free (fr_loadN rfl rfl rfl rfl rfl (SegO.whole (i := 0) rfl)) rfl rfl rfl ?_
          refine ExL.free (fr_indexAddr_b (sz := 2) rfl rfl rfl rfl rfl (by omega)) rfl rfl rfl ?_
          refine ExL.op rfl (op_store (i := 1) rfl rfl rfl rfl rfl rfl rfl rfl (room encMk_len (k := j) (by omega) (by simp) rfl) rfl ?_)
          refine ExL.nil ?_
          refine Ex.region (ExL.pures 0 rfl ?_)
          refine ExL.free (by first | exact fr_add64 rfl rfl rfl (by omega) | exact fr_add rfl rfl rfl) rfl rfl rfl ?_
          refine ExL.pures 1 rfl ?_
          refine ExL.nil ?_
          refine Hand.mk (⟨q.k + 1, q.l.set j x8.1⟩ : PhS) 4 [1, 2, 3] ⟨rfl, trivial⟩ ⟨rfl, rfl, rfl, rfl, rfl, rfl, trivial⟩ (pkB (set_put encMk_len q.l j _ (by omega) (by simp) rfl)) rfl (⟨by dsimp only; omega, by rw [List.length_set]; exact h8q, okL_s h8q (by omega) hqo hx8.1, phU_s h8q (by omega) (by omega) hjj.symm hqb hx8 (by assumption)⟩) (by dsimp only; omega)
      · refine ExL.nil ?_
        refine Ex.seq ?_
        refine Ex.cond_f rfl ?_
        refine Ex.exit ?_
        have hks : q.k = s.length := by omega
        rw [← encPh_ph h8q]
        refine Ex.seq ?_
        refine Ex.regSeq (ExL.pures 1 rfl ?_)
        refine ExL.free (fr_loadN rfl rfl rfl rfl rfl (SegO.whole (i := 0) rfl)) rfl rfl rfl ?_
        refine ExL.op rfl (op_ret rfl rfl rfl (c_iPhotoText s (by assumption) _ _ (by omega) (phot q.l) (okPhot h8q hqo)) (fun w hw => ⟨Reads.get (Reads.old hs) w hw, TabO.keep htab hw⟩) rfl rfl (fun x11 hx11 => ?_))
        refine ExL.pures 1 rfl ?_
        refine ExL.free (fr_neqS (l := (phTx s (phot q.l))) (r := t) rfl rfl rfl) rfl rfl rfl ?_
        refine ExL.nil ?_
        refine Ex.cond rfl (fun hb12 => ?_) (fun hb12 => ?_)
        · replace hb12 := nd_t hb12
          refine Ex.regSeq (ExL.pures 0 rfl ?_)
          refine ExL.free (fr_build rfl rfl rfl rfl) rfl rfl rfl ?_
          refine ExL.op rfl (op_storeC (i := 2) rfl rfl rfl rfl rfl rfl rfl rfl rfl rfl ?_)
          refine ExL.pures 1 rfl ?_
          refine ExL.nil ?_
          refine Ex.ret ?_
          refine RetQ.mk (zPh, 5) rfl (.cell rfl (.many rfl rfl rfl (SegO.whole (i := 2) rfl)) (.tmp rfl .nil)) (rfl) [] (rfl) rfl (rdPh_n hv h8q (by rw [← hks]; exact hqb) (by assumption))
        · replace hb12 := nd_f hb12
          refine Ex.skip ?_
          refine Ex.regSeq (ExL.pures 0 rfl ?_)
          refine ExL.free (fr_loadN rfl rfl rfl rfl rfl (SegO.whole (i := 0) rfl)) rfl rfl rfl ?_
          refine ExL.op rfl (op_storeC (i := 2) rfl rfl rfl rfl rfl rfl rfl rfl rfl rfl ?_)
          refine ExL.pures 1 rfl ?_
          refine ExL.nil ?_
          refine Ex.ret ?_
          refine RetQ.mk (phot q.l, 0) rfl (.cell rfl (.many rfl rfl rfl (SegO.whole (i := 2) rfl)) (.tmp rfl .nil)) (rfl) [] (rfl) rfl (rdPh_i hv h8q hqo (by omega) (by rw [← hks]; exact hqb) (by assumption))
end Go.Proofs.YtdgfalhfmboalaaGreatDoor

/- What these functions of the program hand back, each proved by walking its operations. -/
set_option linter.unusedVariables false
set_option linter.unusedSimpArgs false
set_option maxRecDepth 4000
namespace Go.Proofs.YtdgfalhfmboalaaGreatDoor
open Go Go.Sx Go.RowKit Go.W Go.Proofs
attribute [local irreducible] Ex ExL ExD Op1 Free RetQ MutQ Reads CellO SegO LoadsAs
theorem e_16 : Enters Tryz.prog 16 := Enters.of Tryz.func16 rfl
theorem c_iCountIn (s : List Int) (hu : Nums 255 s) (As : Option Addr) (cs : Nat) (hls : s.length ≤ maxLen) (p : VPh) (hp : OkPh p) (lo hi : Int) : Ret Tryz.prog 16 [.slice As s.length cs, .agg (encPh p).toArray, .int .i64 lo, .int .i64 hi] (fun w => Rd w As (s.flatMap (eI .u8))) (fun x : Unit => .tuple #[.int .i64 (cinV s p lo hi).1, .int .i64 (cinV s p lo hi).2]) (fun x => []) (fun x => True) := by
  refine Ret.of e_16 Tryz.func16 rfl Tryz.ntmps16 rfl rfl (fun w hpre => ?_)
  have hs := hpre.base
  have hm0 : maxLen = 9223372036854775807 := rfl
  refine Ex.regSeq (ExL.pures 0 rfl ?_)
  refine ExL.op rfl (op_box rfl rfl rfl rfl rfl (fun b1 => ?_))
  refine ExL.pures 2 rfl ?_
  refine ExL.nil ?_
  refine Ex.seq ?_
  refine Ex.block ?_
  refine Ex.regSeq (ExL.pures 1 rfl ?_)
  refine ExL.free (fr_loadN rfl rfl rfl rfl rfl (SegO.whole (i := 0) rfl)) rfl rfl rfl ?_
  refine ExL.op rfl (op_ret rfl rfl rfl (c_iValidPhoto s (by assumption) _ _ (by omega) p hp) (Reads.get (Reads.old hs)) rfl rfl (fun x2 hx2 => ?_))
  refine ExL.pures 2 rfl ?_
  refine ExL.nil ?_
  refine Ex.cond rfl (fun hb3 => ?_) (fun hb3 => ?_)
  · replace hb3 := nb_t hb3
    refine Ex.regSeq (ExL.pures 2 rfl ?_)
    refine ExL.nil ?_
    refine Ex.ret ?_
    refine RetQ.mk () rfl (.tmp rfl (.tmp rfl .nil)) (t2 (vI (by first | (rw [ci_1 (by assumption)]; first | done | rfl) | (rw [ci_2 (by assumption) (by omega)]; first | done | rfl) | (rw [ci_0 (by assumption) (by omega) (by omega)]; first | done | rfl) | (rw [ci_y (by assumption) (by omega) (by omega) (by assumption)]; first | done | rfl) | (rw [ci_n (by assumption) (by omega) (by omega) (by assumption)]; first | done | rfl))) (vI (by first | (rw [ci_1 (by assumption)]; first | done | rfl) | (rw [ci_2 (by assumption) (by omega)]; first | done | rfl) | (rw [ci_0 (by assumption) (by omega) (by omega)]; first | done | rfl) | (rw [ci_y (by assumption) (by omega) (by omega) (by assumption)]; first | done | rfl) | (rw [ci_n (by assumption) (by omega) (by omega) (by assumption)]; first | done | rfl)))) [] (rfl) rfl (trivial)
  · replace hb3 := nb_f hb3
    have hz0 := size_bd hu s.length
    rw [List.take_length] at hz0
    refine Ex.regSeq (ExL.pures 2 rfl ?_)
    refine ExL.op rfl (op_ret rfl rfl rfl (c_hasValue s (by assumption) _ _ (by omega) _) (Reads.get (Reads.old hs)) rfl rfl (fun x4 hx4 => ?_))
    refine ExL.pures 2 rfl ?_
    refine ExL.bool (d := 21) rfl (fun hb5 => ?_) (fun hb5 => ?_)
    · replace hb5 := nd_t hb5
      refine ExL.pures 6 rfl ?_
      refine ExL.nil ?_
      refine Ex.cond_t rfl ?_
      refine Ex.regSeq (ExL.pures 2 rfl ?_)
      refine ExL.nil ?_
      refine Ex.ret ?_
      refine RetQ.mk () rfl (.tmp rfl (.tmp rfl .nil)) (t2 (vI (by first | (rw [ci_1 (by assumption)]; first | done | rfl) | (rw [ci_2 (by assumption) (by omega)]; first | done | rfl) | (rw [ci_0 (by assumption) (by omega) (by omega)]; first | done | rfl) | (rw [ci_y (by assumption) (by omega) (by omega) (by assumption)]; first | done | rfl) | (rw [ci_n (by assumption) (by omega) (by omega) (by assumption)]; first | done | rfl))) (vI (by first | (rw [ci_1 (by assumption)]; first | done | rfl) | (rw [ci_2 (by assumption) (by omega)]; first | done | rfl) | (rw [ci_0 (by assumption) (by omega) (by omega)]; first | done | rfl) | (rw [ci_y (by assumption) (by omega) (by omega) (by assumption)]; first | done | rfl) | (rw [ci_n (by assumption) (by omega) (by omega) (by assumption)]; first | done | rfl)))) [] (rfl) rfl (trivial)
    · replace hb5 := nd_f hb5
      refine ExL.pures 2 rfl ?_
      refine ExL.op rfl (op_ret rfl rfl rfl (c_hasValue s (by assumption) _ _ (by omega) _) (Reads.get (Reads.old hs)) rfl rfl (fun x6 hx6 => ?_))
      refine ExL.pures 3 rfl ?_
      refine ExL.nil ?_
      refine Ex.cond rfl (fun hb7 => ?_) (fun hb7 => ?_)
      · replace hb7 := nd_t hb7
        refine Ex.regSeq (ExL.pures 2 rfl ?_)
        refine ExL.nil ?_
        refine Ex.ret ?_
        refine RetQ.mk () rfl (.tmp rfl (.tmp rfl .nil)) (t2 (vI (by first | (rw [ci_1 (by assumption)]; first | done | rfl) | (rw [ci_2 (by assumption) (by omega)]; first | done | rfl) | (rw [ci_0 (by assumption) (by omega) (by omega)]; first | done | rfl) | (rw [ci_y (by assumption) (by omega) (by omega) (by assumption)]; first | done | rfl) | (rw [ci_n (by assumption) (by omega) (by omega) (by assumption)]; first | done | rfl))) (vI (by first | (rw [ci_1 (by assumption)]; first | done | rfl) | (rw [ci_2 (by assumption) (by omega)]; first | done | rfl) | (rw [ci_0 (by assumption) (by omega) (by omega)]; first | done | rfl) | (rw [ci_y (by assumption) (by omega) (by omega) (by assumption)]; first | done | rfl) | (rw [ci_n (by assumption) (by omega) (by omega) (by assumption)]; first | done | rfl)))) [] (rfl) rfl (trivial)
      · replace hb7 := nd_f hb7
        refine Ex.regSeq (ExL.pures 2 rfl ?_)
        refine ExL.gtr rfl rfl rfl rfl rfl rfl (fun h8 => ?_) (fun h8 => ?_)
        · refine ExL.pures 1 rfl ?_
          refine ExL.nil ?_
          refine Ex.cond_t rfl ?_
          refine Ex.regSeq (ExL.pures 2 rfl ?_)
          refine ExL.nil ?_
          refine Ex.ret ?_
          refine RetQ.mk () rfl (.tmp rfl (.tmp rfl .nil)) (t2 (vI (by first | (rw [ci_1 (by assumption)]; first | done | rfl) | (rw [ci_2 (by assumption) (by omega)]; first | done | rfl) | (rw [ci_0 (by assumption) (by omega) (by omega)]; first | done | rfl) | (rw [ci_y (by assumption) (by omega) (by omega) (by assumption)]; first | done | rfl) | (rw [ci_n (by assumption) (by omega) (by omega) (by assumption)]; first | done | rfl))) (vI (by first | (rw [ci_1 (by assumption)]; first | done | rfl) | (rw [ci_2 (by assumption) (by omega)]; first | done | rfl) | (rw [ci_0 (by assumption) (by omega) (by omega)]; first | done | rfl) | (rw [ci_y (by assumption) (by omega) (by omega) (by assumption)]; first | done | rfl) | (rw [ci_n (by assumption) (by omega) (by omega) (by assumption)]; first | done | rfl)))) [] (rfl) rfl (trivial)
        · refine ExL.pures 1 rfl ?_
          refine ExL.nil ?_
          refine Ex.cond_f rfl ?_
          refine Ex.skip ?_
          obtain ⟨hv, hS, hP⟩ := vph hp (by assumption)
          have h8 := hS.len8
          have hz := hS.size_
          have hle := hS.le
          have hps := hS.pos
          have hnlo := digs_num (v := lo) hS.bases
          have hdlo := digs_valid (v := lo) hS
          have helo : (dig (digs s lo)).l = digs s lo := dig_l (digs_len s lo)
          rw [← helo] at hnlo hdlo
          have hblo := bel_bd hP hS (digOk h8 hnlo hdlo) s.length 0 (Nat.le_refl _)
          have hnhi := digs_num (v := hi) hS.bases
          have hdhi := digs_valid (v := hi) hS
          have hehi : (dig (digs s hi)).l = digs s hi := dig_l (digs_len s hi)
          rw [← hehi] at hnhi hdhi
          have hbhi := bel_bd hP hS (digOk h8 hnhi hdhi) s.length 0 (Nat.le_refl _)
          refine Ex.drawSeqM rfl ?_
          refine ExD.take (i := 0) rfl (by kernel_rfl) (pureVal_ok rfl) ((List.Sublist.refl _)) rfl rfl rfl ?_
          refine ExD.take (i := 1) rfl (by kernel_rfl) (fr_loadN rfl rfl rfl rfl rfl (SegO.whole (i := 0) rfl)) ((List.Sublist.refl _)) rfl rfl rfl ?_
          refine ExD.take (i := 2) rfl (by kernel_rfl) (pureVal_ok rfl) ((List.Sublist.refl _)) rfl rfl rfl ?_
          refine ExD.take (i := 3) rfl (by kernel_rfl) (pureVal_ok rfl) ((List.Sublist.refl _)) rfl rfl rfl ?_
          refine ExD.take (i := 6) rfl (by kernel_rfl) (pureVal_ok rfl) ((List.Sublist.refl _)) rfl rfl rfl ?_
          refine ExD.take (i := 7) rfl (by kernel_rfl) (fr_loadN rfl rfl rfl rfl rfl (SegO.whole (i := 0) rfl)) ((List.Sublist.refl _)) rfl rfl rfl ?_
          refine ExD.take (i := 8) rfl (by kernel_rfl) (pureVal_ok rfl) ((List.Sublist.refl _)) rfl rfl rfl ?_
          refine ExD.take (i := 9) rfl (by kernel_rfl) (pureVal_ok rfl) ((List.Sublist.refl _)) rfl rfl rfl ?_
          refine ExD.op (i := 4) rfl (by kernel_rfl) rfl (op_ret rfl rfl rfl (c_digits s (by first | assumption | simp_all) _ _ _ (by omega)) (Reads.get (Reads.old hs)) rfl rfl (fun x9 hx9 => ⟨(List.Sublist.refl _), ?_⟩))
          refine ExD.op (i := 5) rfl (by kernel_rfl) rfl (op_ret rfl rfl rfl (c_countIn s (by first | assumption | simp_all) _ _ p hp (dig (digs s hi)) (by assumption) (by first | assumption | simp_all) (by assumption)) (Reads.get (Reads.old hs)) rfl rfl (fun x10 hx10 => ⟨(List.Sublist.refl _), ?_⟩))
          refine ExD.op (i := 10) rfl (by kernel_rfl) rfl (op_ret rfl rfl rfl (c_digits s (by first | assumption | simp_all) _ _ _ (by omega)) (Reads.get (Reads.old hs)) rfl rfl (fun x11 hx11 => ⟨(List.Sublist.refl _), ?_⟩))
          refine ExD.op (i := 11) rfl (by kernel_rfl) rfl (op_ret rfl rfl rfl (c_countIn s (by first | assumption | simp_all) _ _ p hp (dig (digs s lo)) (by assumption) (by first | assumption | simp_all) (by assumption)) (Reads.get (Reads.old hs)) rfl rfl (fun x12 hx12 => ⟨(List.Sublist.refl _), ?_⟩))
          refine ExD.take (i := 12) rfl (by kernel_rfl) (by first | exact fr_sub64 rfl rfl rfl (by omega) | exact fr_sub rfl rfl rfl) ((List.Sublist.refl _)) rfl rfl rfl ?_
          refine ExD.take (i := 13) rfl (by kernel_rfl) (pureVal_ok rfl) ((List.Sublist.refl _)) rfl rfl rfl ?_
          refine ExD.done (by kernel_rfl) ?_
          refine Ex.seq ?_
          refine Ex.drawSeqM rfl ?_
          refine ExD.take (i := 0) rfl (by kernel_rfl) (pureVal_ok rfl) ((List.Sublist.refl _)) rfl rfl rfl ?_
          refine ExD.take (i := 1) rfl (by kernel_rfl) (fr_loadN rfl rfl rfl rfl rfl (SegO.whole (i := 0) rfl)) ((List.Sublist.refl _)) rfl rfl rfl ?_
          refine ExD.take (i := 2) rfl (by kernel_rfl) (pureVal_ok rfl) ((List.Sublist.refl _)) rfl rfl rfl ?_
          refine ExD.take (i := 3) rfl (by kernel_rfl) (pureVal_ok rfl) ((List.Sublist.refl _)) rfl rfl rfl ?_
          refine ExD.op (i := 4) rfl (by kernel_rfl) rfl (op_ret rfl rfl rfl (c_digits s (by first | assumption | simp_all) _ _ _ (by omega)) (Reads.get (Reads.old hs)) rfl rfl (fun x13 hx13 => ⟨(List.Sublist.refl _), ?_⟩))
          refine ExD.op (i := 5) rfl (by kernel_rfl) rfl (op_ret rfl rfl rfl (c_showsP s (by first | assumption | simp_all) _ _ p hp (dig (digs s hi)) (by assumption) (by first | assumption | simp_all)) (Reads.get (Reads.old hs)) rfl rfl (fun x14 hx14 => ⟨(List.Sublist.refl _), ?_⟩))
          refine ExD.done (by kernel_rfl) ?_
          refine Ex.cond rfl (fun hb15 => ?_) (fun hb15 => ?_)
          · refine Ex.region (ExL.pures 1 rfl ?_)
            refine ExL.free (by first | exact fr_add64 rfl rfl rfl (by omega) | exact fr_add rfl rfl rfl) rfl rfl rfl ?_
            refine ExL.pures 1 rfl ?_
            refine ExL.nil ?_
            refine Ex.regSeq (ExL.pures 3 rfl ?_)
            refine ExL.nil ?_
            refine Ex.ret ?_
            refine RetQ.mk () rfl (.tmp rfl (.tmp rfl .nil)) (t2 (vI (by first | (rw [ci_1 (by assumption)]; first | done | rfl) | (rw [ci_2 (by assumption) (by omega)]; first | done | rfl) | (rw [ci_0 (by assumption) (by omega) (by omega)]; first | done | rfl) | (rw [ci_y (by assumption) (by omega) (by omega) (by assumption)]; first | done | rfl) | (rw [ci_n (by assumption) (by omega) (by omega) (by assumption)]; first | done | rfl))) (vI (by first | (rw [ci_1 (by assumption)]; first | done | rfl) | (rw [ci_2 (by assumption) (by omega)]; first | done | rfl) | (rw [ci_0 (by assumption) (by omega) (by omega)]; first | done | rfl) | (rw [ci_y (by assumption) (by omega) (by omega) (by assumption)]; first | done | rfl) | (rw [ci_n (by assumption) (by omega) (by omega) (by assumption)]; first | done | rfl)))) [] (rfl) rfl (trivial)
          · refine Ex.skip ?_
            refine Ex.regSeq (ExL.pures 3 rfl ?_)
            refine ExL.nil ?_
            refine Ex.ret ?_
            refine RetQ.mk () rfl (.tmp rfl (.tmp rfl .nil)) (t2 (vI (by first | (rw [ci_1 (by assumption)]; first | done | rfl) | (rw [ci_2 (by assumption) (by omega)]; first | done | rfl) | (rw [ci_0 (by assumption) (by omega) (by omega)]; first | done | rfl) | (rw [ci_y (by assumption) (by omega) (by omega) (by assumption)]; first | done | rfl) | (rw [ci_n (by assumption) (by omega) (by omega) (by assumption)]; first | done | rfl))) (vI (by first | (rw [ci_1 (by assumption)]; first | done | rfl) | (rw [ci_2 (by assumption) (by omega)]; first | done | rfl) | (rw [ci_0 (by assumption) (by omega) (by omega)]; first | done | rfl) | (rw [ci_y (by assumption) (by omega) (by omega) (by assumption)]; first | done | rfl) | (rw [ci_n (by assumption) (by omega) (by omega) (by assumption)]; first | done | rfl)))) [] (rfl) rfl (trivial)
end Go.Proofs.YtdgfalhfmboalaaGreatDoor
