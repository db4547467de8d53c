/- Several texts, one behind the other. -/
import Derived.Test.YtiibhahhjkaodaaGreatDoorProg
import Derived.Test.YtiibhahhjkaodaaGreatDoorXaa
import Derived.Test.YtiibhahhjkaodaaGreatDoorXab
import Derived.Test.YtiibhahhjkaodaaGreatDoorXba
import Derived.Test.YtiibhahhjkaodaaGreatDoorXbb
import Derived.Test.YtiibhahhjkaodaaGreatDoorXbc
/- What these functions of the program hand back, each proved by walking its operations. -/
set_option linter.unusedVariables false
set_option linter.unusedSimpArgs false
set_option maxRecDepth 4000
namespace Go.Proofs.YtiibhahhjkaodaaGreatDoor
open Go Go.Sx Go.RowKit Go.W Go.Proofs
attribute [local irreducible] Ex ExL ExD Op1 Free RetQ MutQ Reads CellO SegO LoadsAs
theorem e_63 : Enters Tryz.prog 63 := Enters.of Tryz.func63 rfl
theorem c_FormatInt (n : Int) (hn : -9223372036854775808 ≤ n ∧ n ≤ 9223372036854775807) : Ret Tryz.prog 63 [.int .i64 n, .int .i64 10] (fun w => TabO Tryz.prog w) (fun _ : Unit => sv (Lib.itoa n)) (fun _ => []) (fun _ => True) :=
  ⟨e_63, fun w ht => (Go.Proofs.Tryz.strconv_FormatInt_10 n hn.1 hn.2 w ht).mono (by rintro e w' ⟨rfl, q, os, rfl⟩; exact ⟨(), trivial, rfl, below_grw w q os, by simp, List.Pairwise.nil⟩)⟩
theorem e_34 : Enters Tryz.prog 34 := Enters.of Tryz.func34 rfl
theorem c_decimal (n : Int) (hn : -9223372036854775808 ≤ n ∧ n ≤ 9223372036854775807) : Ret Tryz.prog 34 [.int .i64 n] (fun w => TabO Tryz.prog w) (fun x : Unit => sv (Lib.itoa n)) (fun x => []) (fun x => True) := by
  refine Ret.of e_34 Tryz.func34 rfl Tryz.ntmps34 rfl rfl (fun w hpre => ?_)
  have htab := hpre
  refine Ex.regSeq (ExL.pures 1 rfl ?_)
  refine ExL.nil ?_
  refine Ex.regSeq (ExL.pures 1 rfl ?_)
  refine ExL.op rfl (op_ret rfl rfl rfl (c_FormatInt n (by omega)) (fun w hw => TabO.keep htab hw) rfl rfl (fun x1 hx1 => ?_))
  refine ExL.pures 1 rfl ?_
  refine ExL.nil ?_
  refine Ex.ret ?_
  refine RetQ.mk () rfl (.tmp rfl .nil) (rfl) [] (rfl) rfl (trivial)
end Go.Proofs.YtiibhahhjkaodaaGreatDoor

/- A range over a function whose rounds turn what is held in a way that is told by what is known of it. -/
set_option linter.unusedVariables false
set_option linter.unusedSimpArgs false
namespace Go.Sx
open Go Go.RowKit
variable {C : Cx} {env env' : Env} {m m' : List Ent} {Q Q' : Post} {l rest : List Oper} {o : Oper} {K : Env → List Ent → Prop}
def TabB (P : Program) (base : Nat) (w : World) : Prop := TabO P w ∧ ∀ g, P.globalNamed "internal/strconv.uint64pow10" = some g → g < base
theorem TabO.base {P w} (h : TabO P w) : TabB P w.heap.size w := ⟨h, fun g hg => by
  unfold TabO Lib.TabIs World.var? at h
  simp only [hg, Option.bind_some] at h
  rcases Nat.lt_or_ge g w.heap.size with h1 | h1
  · exact h1
  · rw [Array.getElem?_eq_none h1] at h; simp at h⟩
theorem TabB.keep {P base w w'} (h : TabB P base w) (hb : Below base w w') : TabB P base w' := ⟨by
  have h2 := h.2
  have h := h.1
  unfold TabO Lib.TabIs World.var? at h ⊢
  cases hg : P.globalNamed "internal/strconv.uint64pow10" with
  | none => simp [hg] at h
  | some g =>
    simp only [hg, Option.bind_some] at h ⊢
    rw [hb.block g (h2 g hg)]
    exact h, h.2⟩
theorem TabB.get {P base w0 m w} (h : TabB P base w0) (hh : Holds base w0 m w) : TabO P w := (h.keep hh.below).1
theorem ExL.yieldX {S : List Ent → Prop} {d lp : Nat} {fo args at_ vs} (ho : o.op = .call { callee := .value fo, args := args, argTypes := at_ }) (hfo : ev env fo = some (.func (.yield lp) #[] #[])) (hargs : evs env args.toList = some vs) (hg : wantB l env o = some true) (hd : o.dst = some d) (hlt : Nat.blt d C.n = true)
    (hy : ∀ w, Holds C.base C.w0 m w → YieldAt (fc none) 0 C.P lp vs.toArray w (fun e w' => e = .returned (.bool true) ∧ ∃ m', S m' ∧ Holds C.base C.w0 m' w'))
    (h : ∀ m', S m' → ExL C l rest ((d, .bool true) :: env) m' K) : ExL C l (o :: rest) env m K := by
  unfold ExL at h ⊢
  intro a w hr hh
  have hw := wantB_ok hr hg
  unfold wl
  rw [if_pos hw]
  refine .inr ?_
  obtain ⟨f, tm, asg, bd, hyr, hR⟩ := hy w hh
  have e1 : args.map a.eval = vs.toArray := by rw [← hr.evs hargs]; simp [← Array.toList_inj]
  refine ⟨lp, f, tm, asg, bd, w, ?_, ?_⟩
  · simp [execOp, ho, resolve, hr.ev hfo, Deferred.ofValue, invoke, e1, hyr]
  · refine RoundIn.mono (F := fc C.rd) hR ?_
    rintro e w' ⟨rfl, m', hS, hh'⟩
    exact h m' hS _ _ (hr.put1 hd hlt) hh'
theorem pk3R {a b : Ent} {v : Value} {E sz n : Nat} {cs cs' : List Value} {r : List Ent} (h : cs = cs') : some (a :: b :: Ent.row v E sz n cs :: r) = some (a :: b :: .row v E sz n cs' :: r) := by rw [h]
def YieldsX (P : Program) (l base : Nat) (w0 : World) (box : Ent) (Sf : Nat → List Ent → Prop) (N : Nat) (encs : Nat → List Value) : Prop :=
  ∀ k W mk, k < N → Sf k mk → Holds base w0 (box :: mk) W → YieldAt (fc none) 0 P l (encs k).toArray W (fun e W' => e = .returned (.bool true) ∧ ∃ m', (∃ mk', Sf (k + 1) mk' ∧ m' = box :: mk') ∧ Holds base w0 m' W')
def IterX (P : Program) (gf : FuncId) (lb : List Value) (base : Nat) (w0 : World) (box : Ent) (N : Nat) (encs : Nat → List Value) : Prop :=
  Enters P gf ∧ ∀ (w1 : World) (l : Nat) (Sf : Nat → List Ent → Prop) (m0 : List Ent) (W : World), Below base w0 w1 → YieldsX P l base w1 box Sf N encs → Sf 0 m0 → Holds base w1 (box :: m0) W →
    Calls P gf (.func (.yield l) #[] #[] :: lb).toArray W fun e W' => (∃ v, e = .returned v) ∧ ∃ mN, Sf N mN ∧ Holds base w1 (box :: mN) W'
theorem Ex.rangeFX {g : Operand} {ps : List Nat} {asg bd B : Code} {id gf N : Nat} {lb : List Value} {encs : Nat → List Value} {box : Ent} {Sf : Nat → List Ent → Prop} {m0 : List Ent} (t : Nat) (is : List Nat) (E1 : Nat → Env) (hrd : C.rd = none) (hds : C.ds = [])
    (hg : ev env g = some (.func (.func gf) #[] (List.toArray lb))) (hit : IterX C.P gf lb C.base C.w0 box N encs) (hps : ∀ k, (encs k).length = ps.length) (hpn : ps.all (fun p => Nat.blt p C.n) = true) (hM : pickT m t is = some (box :: m0)) (hf : freshT t is = true) (h0 : Sf 0 m0)
    (hasg : ∀ l k W mk, k < N → Sf k mk → Below C.base C.w0 W → Ex ⟨C.P, C.n, C.base, W, some l, []⟩ asg (zipR ps (encs k) env) (box :: mk) (fun e env' m' => e = .normal ∧ Agree (E1 k) env' ∧ m' = box :: mk))
    (hbd : ∀ l k W mk, k < N → Sf k mk → Below C.base C.w0 W → Ex ⟨C.P, C.n, C.base, W, some l, []⟩ bd (E1 k) (box :: mk) (fun e env' m' => e = .normal ∧ ∃ t is mk', Sf (k + 1) mk' ∧ pickT m' t is = some (box :: mk') ∧ freshT t is = true))
    (hB : ∀ D W mk, Sf N mk → Below C.base C.w0 W → Ex ⟨C.P, C.n, C.base, W, none, [mark D]⟩ B env (box :: mk) (fun e env' m' => e = .ret ∧ Q e env' m')) :
    ExT C (.block id (.rangeFunc g ps.toArray asg bd)) B env m Q := by
  obtain ⟨P, n, base, w0, rd, ds⟩ := C
  simp only at hrd hds hit hasg hbd hB hpn
  subst hrd hds
  unfold Ex at hasg hbd hB
  intro a w hr hh
  simp only at hr hh
  refine wpIn_block (wpIn_rangeFunc ?_)
  intro fn _
  obtain ⟨rec, hrec⟩ : ∃ rec : LoopState → Option Code → Loop, rec = fun st pe => { state := st, pending := pe, fn, tmps := a.tmps, params := ps.toArray, assign := asg, body := bd, defers := w.heap.size } := ⟨_, rfl⟩
  obtain ⟨W1, hW1⟩ : ∃ W1, (w.alloc (.deferred (some []))).alloc (.loop (rec .ready none)) = W1 := ⟨_, rfl⟩
  have hL1 : W1.heap[w.heap.size + 1]? = some (.loop (rec .ready none)) := by
    rw [← hW1]; have := World.alloc_heap_new (w.alloc (.deferred (some []))) (.loop (rec .ready none)); rwa [World.size_alloc] at this
  have hK1 : W1.heap[w.heap.size]? = some (.deferred (some [])) := by
    rw [← hW1]; exact (Below.heap_alloc _ _ _ (by simp)).trans (World.alloc_heap_new w _)
  have hg1 : w.grownBy W1 none := by rw [← hW1]; exact grown_of_below (((below_alloc' w _).trans ((below_alloc' _ _).mono (by simp)))) none
  have hb1 : Below base w W1 := by rw [← hW1]; exact (((below_alloc' w _).trans ((below_alloc' _ _).mono (by simp)))).mono hh.wle
  have hB1 : Below base w0 W1 := hh.below.trans hb1
  have hH1 : Holds base W1 (box :: m0) W1 := (hh.pickT hM hf).fresh hg1
  have ho1 : KeepsOthers w W1 := KeepsOthers.of_grownBy hg1 (fun _ _ e => nomatch e)
  have hsz : w.heap.size + 1 < W1.heap.size := (Array.getElem?_eq_some_iff.1 hL1).1
  have hwle := hh.wle
  refine ⟨w.heap.size + 1, [mark w.heap.size], W1, { target := .fn (.func gf) lb.toArray, args := #[.func (.yield (w.heap.size + 1)) #[] #[]] }, W1, gf,
    #[.func (.yield (w.heap.size + 1)) #[] #[]] ++ lb.toArray, W1, ?_, ?_, fun _ _ => trivial, ?_, noDepth, ?_⟩
  · rw [← hW1, hrec]; exact run_enterLoop_outer _ _ _ _ _
  · simp only [resolve, hr.ev hg]
    simp [go_sem]
  · simp [invoke, go_sem, hit.1 _]
  · refine callsFc _ _ ?_
    have hcall := hit.2 W1 (w.heap.size + 1) Sf m0 W1 hB1 ?_ h0 hH1
    · rw [show #[Value.func (.yield (w.heap.size + 1)) #[] #[]] ++ lb.toArray = (Value.func (.yield (w.heap.size + 1)) #[] #[] :: lb).toArray by simp]
      refine hcall.mono ?_
      rintro e W2 ⟨⟨v, rfl⟩, mN, hSN, hH2⟩
      have hl2 : W2.heap[w.heap.size + 1]? = some (.loop (rec .ready none)) := hH2.others.same _ _ hL1 rfl
      have hk2 : W2.heap[w.heap.size]? = some (.deferred (some [])) := hH2.others.same _ _ hK1 rfl
      have hend := run_endLoop (P := P) hl2 (by rw [hrec]; simp)
      have hp0 : (rec .ready none).pending = none := by rw [hrec]
      refine ⟨none, _, hend.trans (congrArg (fun p => Result.ok p _) hp0), ?_⟩
      have hk3 : (W2.putObj (w.heap.size + 1) (.loop { rec .ready none with state := .exhausted })).heap[w.heap.size]? = some (.deferred (some [])) := (World.putObj_heap_other (by omega)).trans hk2
      have hb3 : Below base W2 (W2.putObj (w.heap.size + 1) (.loop { rec .ready none with state := .exhausted })) := below_put _ hH2.wle (by omega)
      have hr3 : Rep n [mark w.heap.size] env { a with defers := [mark w.heap.size] ++ a.defers } := ⟨by rw [hr.def0]; rfl, hr.size, hr.at_⟩
      have h3 := hB w.heap.size _ mN hSN (hB1.trans (hH2.below.trans hb3)) _ _ hr3 (hH2.freshPut hl2 rfl)
      refine wpIn_mono h3 ?_
      rintro e a4 W4 ⟨ho, env4, m4, ds4, hr4, hh4, ⟨rfl, hq⟩, hd4⟩
      have hd5 : ds4 = [mark w.heap.size] := by
        rcases hd4 with h | ⟨_, h, _⟩
        · exact h
        · cases h
      refine ⟨rfl, env4, m4, ds4, hr4, ⟨(hB1.trans (hH2.below.trans hb3)).trans hh4.below, hh.le, hh4.all, hh4.apart, ?_⟩, hq, .inr ⟨rfl, rfl, _, hd5, hh.below.size, hh4.others.same _ _ hk3 rfl⟩⟩
      refine KeepsOthers.trans ⟨?_, fun k o hk ho => ?_⟩ hh4.others
      · have h1 := hh.below.size; have h2 := hH2.below.size; simp; omega
      · have hk0 : k < w0.heap.size := (Array.getElem?_eq_some_iff.1 hk).1
        have h1 := hh.below.size
        exact (World.putObj_heap_other (by omega)).trans (hH2.others.same _ _ (ho1.same _ _ (hh.others.same _ _ hk ho) ho) ho)
    · intro k W mk hk hS hH
      have hl : W.heap[w.heap.size + 1]? = some (.loop (rec .ready none)) := hH.others.same _ _ hL1 rfl
      have hy := run_yield (P := P) (args := (encs k).toArray) hl (by rw [hrec]; simp [hps k])
      rw [hrec] at hy
      refine ⟨fn, _, asg, bd, hy, roundIn_of_wpIn trivial ?_⟩
      have hBW := hB1.trans hH.below
      have hrz : Rep n [] (zipR ps (encs k) env) { tmps := (ps.toArray.zip (encs k).toArray).foldl (fun tmps (t, a) => tmps.setIfInBounds t a) a.tmps, defers := [] } := by
        have := rep_zip (vs := encs k) (env := env) (tm := a.tmps) (ds := []) hpn ⟨rfl, hr.size, hr.at_⟩
        simpa using this
      have h1 := hasg (w.heap.size + 1) k W mk hk hS hBW _ W hrz hH.fresh0
      refine wpIn_mono h1 ?_
      rintro e a1 Wa ⟨_, env1, m1, ds1, hr1, hh1, ⟨rfl, hA, rfl⟩, hd1⟩
      have hds1 : ds1 = [] := hd1.same (fun e => nomatch e)
      subst hds1
      have hla : Wa.heap[w.heap.size + 1]? = some (.loop (rec .ready none)) := hh1.others.same _ _ hl rfl
      have hlt : w.heap.size + 1 < Wa.heap.size := (Array.getElem?_eq_some_iff.1 hla).1
      refine ⟨_, run_beginRound hla (by rw [hrec]), ?_⟩
      have hbb : Below base Wa (Wa.putObj (w.heap.size + 1) (.loop { rec .ready none with state := .busy })) := below_put _ hh1.wle (by omega)
      have h2 := hbd (w.heap.size + 1) k _ mk hk hS ((hBW.trans hh1.below).trans hbb) a1 _ (hr1.agree hA) (hh1.freshPut hla rfl)
      refine wpIn_mono h2 ?_
      rintro e a2 Wc ⟨_, env2, m2, ds2, hr2, hh2, ⟨rfl, t2, is2, mk', hS', hp2, hf2⟩, hd2⟩
      have hlc : Wc.heap[w.heap.size + 1]? = some (.loop { rec .ready none with state := .busy }) := hh2.others.same _ _ (World.putObj_heap_same hlt) rfl
      have her := run_endRound (P := P) none hlc
      refine ⟨_, _, her, rfl, _, ⟨mk', hS', rfl⟩, ?_⟩
      have hpk := hh2.pickT hp2 hf2
      have hbc : Below base Wc (Wc.putObj (w.heap.size + 1) (.loop { { rec .ready none with state := .busy } with state := if (none : Option Code).isNone then .ready else .done, pending := none })) := below_put _ hh2.wle (by omega)
      refine ⟨(((hH.below.trans hh1.below).trans hbb).trans hh2.below).trans hbc, hH.le, fun e he => (hpk.all e he).put hlc rfl rfl, hpk.apart, ⟨?_, fun j o hj ho => ?_⟩⟩
      · have h1 := hH.below.size
        have h2 : W.heap.size ≤ Wa.heap.size := hh1.below.size
        have h3 : (Wa.putObj (w.heap.size + 1) (.loop { rec .ready none with state := .busy })).heap.size ≤ Wc.heap.size := hh2.below.size
        rw [World.putObj_size] at h3 ⊢
        omega
      · by_cases hj2 : j = w.heap.size + 1
        · subst hj2
          rw [hL1] at hj
          cases hj
          have := World.putObj_heap_same (w := Wc) (o := .loop { { rec .ready none with state := .busy } with state := if (none : Option Code).isNone then .ready else .done, pending := none }) (Array.getElem?_eq_some_iff.1 hlc).1
          rw [this, hrec]; rfl
        · exact (World.putObj_heap_other hj2).trans (hh2.others.same _ _ ((World.putObj_heap_other hj2).trans (hh1.others.same _ _ (hH.others.same _ _ hj ho) ho)) ho)
/-- The same as it is met: what a round sees (V), what stays (Kp, Mk), what it turns (M), what is known of it (I). -/
theorem Ex.rangeKX {X : Type} {g : Operand} {ps : List Nat} {asg bd B : Code} {id gf N : Nat} {lb : List Value} {encs : Nat → List Value} {box : Ent} (V : Nat → Env) (M : Nat → X → List Ent) (I : Nat → X → Prop) (x0 : X) (Kp : Env) (Mk : List Ent) (t : Nat) (is : List Nat)
    (hg : ev env g = some (.func (.func gf) #[] (List.toArray lb))) (hit : IterX C.P gf lb C.base C.w0 box N encs) (hps : ∀ k, (encs k).length = ps.length) (hrd : C.rd = none) (hds : C.ds = []) (hpn : ps.all (fun p => Nat.blt p C.n) = true) (hM : pickT m t is = some (box :: (M 0 x0 ++ Mk))) (hf : freshT t is = true) (h0 : I 0 x0) (hK : Agree Kp env)
    (hasg : ∀ l k W x, k < N → I k x → Below C.base C.w0 W → Ex ⟨C.P, C.n, C.base, W, some l, []⟩ asg (zipR ps (encs k) env) (box :: (M k x ++ Mk)) (fun e env' m' => e = .normal ∧ Agree (V k ++ Kp) env' ∧ m' = box :: (M k x ++ Mk)))
    (hbd : ∀ l k W x, k < N → I k x → Below C.base C.w0 W → Ex ⟨C.P, C.n, C.base, W, some l, []⟩ bd (V k ++ Kp) (box :: (M k x ++ Mk)) (fun e env' m' => e = .normal ∧ ∃ x' t is, I (k + 1) x' ∧ pickT m' t is = some (box :: (M (k + 1) x' ++ Mk)) ∧ freshT t is = true))
    (hB : ∀ D W x, I N x → Below C.base C.w0 W → Ex ⟨C.P, C.n, C.base, W, none, [mark D]⟩ B env (box :: (M N x ++ Mk)) (fun e env' m' => e = .ret ∧ Q e env' m')) :
    ExT C (.block id (.rangeFunc g ps.toArray asg bd)) B env m Q := by
  refine Ex.rangeFX (Sf := fun k mk => ∃ x, I k x ∧ mk = M k x ++ Mk) (m0 := M 0 x0 ++ Mk) t is (fun k => V k ++ Kp) hrd hds hg hit hps hpn hM hf ⟨x0, h0, rfl⟩ ?_ ?_ ?_
  · rintro l k W _ hk ⟨x, hx, rfl⟩ hW
    exact hasg l k W x hk hx hW
  · rintro l k W _ hk ⟨x, hx, rfl⟩ hW
    have h := hbd l k W x hk hx hW
    unfold Ex at h ⊢
    intro a w hr hh
    refine wpIn_mono (h a w hr hh) ?_
    rintro e a2 w2 ⟨ho, env2, m2, ds2, hr2, hh2, ⟨he, x', t2, is2, hI, hp, hf2⟩, hd2⟩
    exact ⟨ho, env2, m2, ds2, hr2, hh2, ⟨he, t2, is2, _, ⟨x', hI, rfl⟩, hp, hf2⟩, hd2⟩
  · rintro D W _ ⟨x, hx, rfl⟩ hW
    exact hB D W x hx hW
theorem IterX.of {P : Program} {gf fn c n} {lb : List Value} {base : Nat} {w0 : World} {box : Ent} {N : Nat} {encs : Nat → List Value} (hE : Enters P gf) (hf : P.funcs[gf]? = some fn) (hb : fn.body = some c) (hn : fn.ntmps = n) (hrs : fn.results = List.toArray []) (hv : Nat.ble (lb.length + 1) n = true)
    (h : ∀ w1 l Sf m0, Below base w0 w1 → YieldsX P l base w1 box Sf N encs → Sf 0 m0 → Ex ⟨P, n, base, w1, none, []⟩ c (argsAt 0 (.func (.yield l) #[] #[] :: lb)) (box :: m0) (fun e env m => isEnd e = true ∧ ∃ mN, Sf N mN ∧ m = box :: mN)) : IterX P gf lb base w0 box N encs := by
  refine ⟨hE, fun w1 l Sf m0 W hW hY h0 hH => fcCalls (rd := none) (n := 0) (callsIn_of_wp_marks hf hb trivial ?_)⟩
  subst hn
  refine wpIn_mono (h w1 l Sf m0 hW hY h0 _ W (rep_start (Nat.le_of_ble_eq_true (by simpa using hv))) hH) ?_
  rintro e a w' ⟨ho, env, m, ds, hr, hh, ⟨hend, mN, hSN, rfl⟩, hd⟩
  refine bodyOf (e := e) hd hr hh (by cases e <;> simp_all [isEnd]) (fun w'' hh => ?_)
  have hrun := run_results (fn := fn) (rs := []) (vs := []) hrs trivial hr hh
  exact ⟨_, hrun, ⟨_, rfl⟩, mN, hSN, hh⟩
end Go.Sx

/- What these functions of the program hand back, each proved by walking its operations. -/
set_option linter.unusedVariables false
set_option linter.unusedSimpArgs false
set_option maxRecDepth 4000
namespace Go.Proofs.YtiibhahhjkaodaaGreatDoor
open Go Go.Sx Go.RowKit Go.W Go.Proofs
attribute [local irreducible] Ex ExL ExD Op1 Free RetQ MutQ Reads CellO SegO LoadsAs
theorem c_back1X (s : List Int) (As : Option Addr) (cs : Nat) (hls : s.length ≤ maxLen) (b base : Nat) (w0 : World) (hs : RdB base w0 As (s.flatMap (eI .u8))) : IterX Tryz.prog 87 [.pointer (some ⟨b, 0, none⟩)] base w0 (.blk b [.slice As s.length cs] 24) s.length (fun k => [.int .i64 ((s.length - 1 - k : Nat) : Int), .int .u8 (s.getD (s.length - 1 - k) 0)]) := by
  refine IterX.of e_87 Tryz.func87 rfl Tryz.ntmps87 rfl rfl (fun w1 l Sf m0 hW hY h0 => ?_)
  have hs := hs.keep hW
  have hm0 : maxLen = 9223372036854775807 := rfl
  refine Ex.regSeq (ExL.pures 0 rfl ?_)
  refine ExL.free (fr_load rfl rfl rfl rfl (CellO.blk (i := 0) rfl rfl)) rfl rfl rfl ?_
  refine ExL.pures 1 rfl ?_
  refine ExL.free (fr_sub64 rfl rfl rfl (by omega)) rfl rfl rfl ?_
  refine ExL.pures 1 rfl ?_
  refine ExL.nil ?_
  refine Ex.block ?_
  refine Ex.loopK (X := Nat × List Ent) (fun x => [(3, .int .i64 ((s.length : Int) - 1 - x.1))]) (fun x => .blk b [.slice As s.length cs] 24 :: x.2) (fun x => x.1 ≤ s.length ∧ Sf x.1 x.2) (fun x => s.length - x.1) (0, m0) [(0, _), (1, _)] [] 1 [0] ⟨agI (by simp), trivial⟩ ⟨rfl, rfl, trivial⟩ pick_box rfl ⟨Nat.zero_le _, h0⟩ (fun x hI => ?_)
  obtain ⟨hI, hS⟩ : x.1 ≤ s.length ∧ Sf x.1 x.2 := hI
  refine Ex.seq ?_
  refine Ex.regSeq (ExL.pures 1 rfl ?_)
  refine ExL.geq rfl rfl rfl rfl rfl rfl (fun h1 => ?_) (fun h1 => ?_)
  · have hk : x.1 < s.length := by omega
    have hj : (s.length : Int) - 1 - x.1 = ((s.length - 1 - x.1 : Nat) : Int) := by omega
    rw [hj]
    refine ExL.nil ?_
    refine Ex.cond_t rfl ?_
    refine Ex.skip ?_
    refine Ex.seq ?_
    refine Ex.block ?_
    refine Ex.regSeq (ExL.pures 2 rfl ?_)
    refine ExL.free (fr_load rfl rfl rfl rfl (CellO.blk (i := 0) rfl rfl)) rfl rfl rfl ?_
    refine ExL.pures 1 rfl ?_
    refine ExL.free (fr_indexAddrF (Reads.old hs) (eI_len .u8) rfl rfl rfl rfl rfl rfl (by omega)) rfl rfl rfl ?_
    refine ExL.free (fr_load rfl rfl rfl rfl (cellN (Reads.old hs) (eI_len .u8) 0 0 rfl (by omega) rfl)) rfl rfl rfl ?_
    refine ExL.yieldX rfl rfl rfl rfl rfl rfl (fun w hw => hY x.1 w x.2 hk hS (by simpa using hw)) ?_
    rintro _ ⟨mk, hS2, rfl⟩
    refine ExL.pures 1 rfl ?_
    refine ExL.nil ?_
    refine Ex.cond_f rfl ?_
    refine Ex.skip ?_
    refine Ex.region (ExL.pures 1 rfl ?_)
    refine ExL.free (fr_sub64 rfl rfl rfl (by omega)) rfl rfl rfl ?_
    refine ExL.pures 1 rfl ?_
    refine ExL.nil ?_
    exact Hand.mk (x.1 + 1, mk) 1 [0] ⟨agI (by show ((s.length - 1 - x.1 : Nat) : Int) - 1 = (s.length : Int) - 1 - ((x.1 + 1 : Nat) : Int); omega), trivial⟩ ⟨rfl, rfl, trivial⟩ pick_box rfl ⟨by dsimp only; omega, hS2⟩ (by dsimp only; omega)
  · refine ExL.nil ?_
    refine Ex.cond_f rfl ?_
    refine Ex.exit ?_
    have hk : x.1 = s.length := by omega
    exact ⟨rfl, x.2, hk ▸ hS, by simp⟩
theorem e_66 : Enters Tryz.prog 66 := Enters.of Tryz.func66 rfl
theorem c_Join (xs : List (List UInt8)) (n : Nat) (hn : xs.length = n) (A : Option Addr) (c : Nat) (sep : List UInt8) (hc : n ≤ c) (hl : xs.length ≤ 140737488355328) (hj : (Lib.join xs sep).length ≤ 140737488355328) : Ret Tryz.prog 66 [.slice A n c, sv sep] (fun w => Rd w A (xs.flatMap eSt)) (fun _ : Unit => sv (Lib.join xs sep)) (fun _ => []) (fun _ => True) := by
  subst hn
  refine ⟨e_66, fun w hr => ?_⟩
  rcases Nat.eq_zero_or_pos xs.length with h | h
  · obtain rfl := List.eq_nil_of_length_eq_zero h
    exact (Go.Proofs.Tryz.strings_Join_none A c (mkB sep) w).mono (by rintro e w' ⟨rfl, rfl⟩; exact ⟨(), trivial, rfl, Below.refl _ _, by simp, List.Pairwise.nil⟩)
  · obtain ⟨bk, o, rfl, hb, hcs⟩ := join_pre hr h
    have h1 := Go.Proofs.Tryz.strings_Join bk o c (xs.map mkB) (mkB sep) w hcs hb (by simpa using hl) (by simpa using hc) (by rw [mkB_map]; exact hj)
    rw [mkB_map, List.length_map] at h1
    exact h1.mono (by rintro e w' ⟨rfl, hbl⟩; exact ⟨(), trivial, rfl, hbl, by simp, List.Pairwise.nil⟩)
theorem e_88 : Enters Tryz.prog 88 := Enters.of Tryz.func88 rfl
theorem c_Repeat (l : List UInt8) (c : Int) (hc : c = 0 ∨ c = 1) : Ret Tryz.prog 88 [sv l, .int .i64 c] (fun _ => True) (fun _ : Unit => sv (if c = 1 then l else [])) (fun _ => []) (fun _ => True) := by
  refine ⟨e_88, fun w _ => ?_⟩
  rcases hc with rfl | rfl
  · exact (Go.Proofs.Tryz.strings_Repeat_zero (mkB l) w).mono (by rintro e w' ⟨rfl, rfl⟩; exact ⟨(), trivial, rfl, Below.refl _ _, by simp, List.Pairwise.nil⟩)
  · exact (Go.Proofs.Tryz.strings_Repeat_one (mkB l) w).mono (by rintro e w' ⟨rfl, rfl⟩; exact ⟨(), trivial, rfl, Below.refl _ _, by simp, List.Pairwise.nil⟩)
theorem e_65 : Enters Tryz.prog 65 := Enters.of Tryz.func65 rfl
theorem c_padded (n d : Int) (hn : 0 ≤ n ∧ n ≤ 1000) (hd : 0 ≤ d ∧ d ≤ ((Lib.itoa n).length : Int) + 1) : Ret Tryz.prog 65 [.int .i64 n, .int .i64 d] (fun w => TabO Tryz.prog w) (fun x : Unit => sv (padT n d)) (fun x => []) (fun x => True) := by
  refine Ret.of e_65 Tryz.func65 rfl Tryz.ntmps65 rfl rfl (fun w hpre => ?_)
  have htab := hpre
  have hil := itoa_le (n := n) (by omega)
  refine Ex.regSeq (ExL.pures 1 rfl ?_)
  refine ExL.nil ?_
  refine Ex.regSeq (ExL.pures 1 rfl ?_)
  refine ExL.op rfl (op_ret rfl rfl rfl (c_decimal n (by omega)) (fun w hw => TabO.keep htab hw) rfl rfl (fun x1 hx1 => ?_))
  refine ExL.pures 1 rfl ?_
  refine ExL.nil ?_
  have hif : (if max 0 (d - ((Lib.itoa n).length : Int)) = 1 then [48] else ([] : List UInt8)).length ≤ 1 := by split <;> simp
  refine Ex.regSeq (ExL.pures 2 rfl ?_)
  refine ExL.free (fr_lenS (l := Lib.itoa n) rfl rfl rfl) rfl rfl rfl ?_
  refine ExL.free (by first | exact fr_sub64 rfl rfl rfl (by omega) | exact fr_sub rfl rfl rfl) rfl rfl rfl ?_
  refine ExL.free (fr_max rfl rfl rfl) rfl rfl rfl ?_
  refine ExL.op rfl (op_ret rfl rfl rfl (c_Repeat [48] (max 0 (d - ((Lib.itoa n).length : Int))) (by omega)) (fun _ _ => trivial) rfl rfl (fun x2 hx2 => ?_))
  refine ExL.pures 1 rfl ?_
  refine ExL.free (fr_addS (l := (if (max 0 (d - ((Lib.itoa n).length : Int))) = 1 then [48] else [])) (r := Lib.itoa n) rfl rfl rfl (by first | omega | (simp only [List.length_append, List.length_cons, List.length_nil]; omega))) rfl rfl rfl ?_
  refine ExL.pures 1 rfl ?_
  refine ExL.nil ?_
  refine Ex.ret ?_
  refine RetQ.mk () rfl (.tmp rfl .nil) (rfl) [] (rfl) rfl (trivial)
end Go.Proofs.YtiibhahhjkaodaaGreatDoor

/- What these functions of the program hand back, each proved by walking its operations. -/
set_option linter.unusedVariables false
set_option linter.unusedSimpArgs false
set_option maxRecDepth 4000
namespace Go.Proofs.YtiibhahhjkaodaaGreatDoor
open Go Go.Sx Go.RowKit Go.W Go.Proofs
attribute [local irreducible] Ex ExL ExD Op1 Free RetQ MutQ Reads CellO SegO LoadsAs
theorem e_35 : Enters Tryz.prog 35 := Enters.of Tryz.func35 rfl
theorem c_text (s : List Int) (hv : validStack s = true) (As : Option Addr) (cs : Nat) (a : Dig) (ha : Nums 255 a.l) (hd : validDig s a.l = true) : Ret Tryz.prog 35 [.slice As s.length cs, .agg (encD a).toArray] (fun w => Rd w As (s.flatMap (eI .u8)) ∧ TabO Tryz.prog w) (fun x : Unit => sv (digT s a.l)) (fun x => []) (fun x => True) := by
  refine Ret.of e_35 Tryz.func35 rfl Tryz.ntmps35 rfl rfl (fun w hpre => ?_)
  have htab := hpre.2.base
  have hpre := hpre.1
  have hs := hpre.base
  have hS := stk hv
  have h8 := hS.len8
  have hD := digOk h8 ha hd
  have hn : s.length ≤ a.l.length := by rw [dig_len]; omega
  have hm0 : maxLen = 9223372036854775807 := rfl
  refine Ex.regSeq (ExL.pures 0 rfl ?_)
  refine ExL.op rfl (op_box rfl rfl rfl rfl rfl (fun b1 => ?_))
  refine ExL.pures 1 rfl ?_
  refine ExL.nil ?_
  refine Ex.regSeq (ExL.pures 0 rfl ?_)
  refine ExL.op rfl (op_buildSlice (sz := 1) rfl rfl rfl rfl rfl rfl rfl rfl (by decide) rfl rfl rfl (fun r2 => ?_))
  refine ExL.op rfl (op_alloc rfl rfl rfl rfl rfl (fun b3 => ?_))
  refine ExL.op rfl (op_storeC (i := 0) rfl rfl rfl rfl rfl rfl rfl rfl rfl rfl ?_)
  refine ExL.nil ?_
  refine ExT.seq ?_
  refine ExT.reg (ExL.pures 1 rfl ?_)
  refine ExL.op rfl (op_ret rfl rfl rfl (c_Back s _ _) (fun _ _ => trivial) rfl rfl (fun x4 hx4 => ?_))
  refine ExL.nil ?_
  refine Ex.rangeKX (X := Option Addr × Nat) (N := s.length) (encs := fun k => [.int .i64 ((s.length - 1 - k : Nat) : Int), .int .u8 (s.getD (s.length - 1 - k) 0)]) (fun k => [(6, .int .i64 ((s.length - 1 - k : Nat) : Int)), (7, .int .u8 (s.getD (s.length - 1 - k) 0))]) (fun k q => [.blk b3 [.slice q.1 k q.2] 75, .row (.slice q.1 k q.2) 9 1 k ((partsF (dpart s a.l) k).flatMap eSt)]) (fun k q => True) ((some ⟨r2, 0, none⟩), 0) [(3, _), (5, _)] [_] 4 [0, 1, 2, 3] rfl (c_back1X s As cs (by have := hS.len8; omega) _ _ _ hs) (fun _ => rfl) rfl rfl rfl (rfl) rfl (trivial) ⟨rfl, rfl, trivial⟩ (fun l k W q hk hI hW => ?_) (fun l k W q hk hI hW => ?_) (fun D W q hI hW => ?_)
  · have hs := hs.keep hW
    have htab := htab.keep hW
    refine Ex.regSeq (ExL.pures 1 rfl ?_)
    refine ExL.nil ?_
    refine Ex.region (ExL.pures 1 rfl ?_)
    refine ExL.nil ?_
    exact ⟨rfl, ⟨rfl, rfl, rfl, rfl, trivial⟩, rfl⟩
  · have hs := hs.keep hW
    have htab := htab.keep hW
    obtain ⟨j, hj⟩ : ∃ j : Nat, s.length - 1 - k = j := ⟨_, rfl⟩
    have hjs : j < s.length := by omega
    rw [hj]
    have hdj := hD j hjs
    have hbj := hS.bases j hjs
    obtain ⟨hpd, hpe⟩ := pad_dg hbj hdj
    have hdp : padT (a.l.getD j 0) ((Lib.itoa (s.getD j 0 - 1)).length : Int) = dpart s a.l k := by unfold dpart; rw [hj]; exact hpe
    have hil := itoa_le (n := s.getD j 0 - 1) (by omega)
    refine Ex.block ?_
    refine Ex.drawI [0, 1, 3] rfl rfl ?_
    refine ExD.take (i := 0) rfl (by kernel_rfl) (fr_load rfl rfl rfl rfl (CellO.blk (i := 1) rfl rfl)) ((List.Sublist.cons_cons _ (List.Sublist.cons_cons _ (List.Sublist.cons _ (List.Sublist.refl _))))) rfl rfl rfl ?_
    refine ExD.take (i := 1) rfl (by kernel_rfl) (pureVal_ok rfl) ((List.Sublist.cons_cons _ (List.Sublist.cons_cons _ (List.Sublist.cons _ (List.Sublist.refl _))))) rfl rfl rfl ?_
    refine ExD.take (i := 2) rfl (by kernel_rfl) (fr_indexAddr_b (sz := 1) rfl rfl rfl rfl rfl (by omega)) ((List.Sublist.cons_cons _ (List.Sublist.cons_cons _ (List.Sublist.cons _ (List.Sublist.refl _))))) rfl rfl rfl ?_
    refine ExD.take (i := 3) rfl (by kernel_rfl) (fr_load rfl rfl rfl rfl (CellO.blk (i := 2) rfl (blkG (eI_len .u8) 0 rfl (by rw [dig_len]; omega) rfl))) ((List.Sublist.cons_cons _ (List.Sublist.cons_cons _ (List.Sublist.cons _ (List.Sublist.refl _))))) rfl rfl rfl ?_
    refine ExD.take (i := 4) rfl (by kernel_rfl) (by first | exact fr_conv64 rfl rfl rfl rfl (by omega) | exact fr_conv rfl rfl rfl rfl) ((List.Sublist.cons_cons _ (List.Sublist.cons_cons _ (List.Sublist.cons _ (List.Sublist.refl _))))) rfl rfl rfl ?_
    refine ExD.take (i := 5) rfl (by kernel_rfl) (pureVal_ok rfl) ((List.Sublist.cons_cons _ (List.Sublist.cons_cons _ (List.Sublist.cons _ (List.Sublist.refl _))))) rfl rfl rfl ?_
    refine ExD.take (i := 6) rfl (by kernel_rfl) (by first | exact fr_conv64 rfl rfl rfl rfl (by omega) | exact fr_conv rfl rfl rfl rfl) ((List.Sublist.cons_cons _ (List.Sublist.cons_cons _ (List.Sublist.cons _ (List.Sublist.refl _))))) rfl rfl rfl ?_
    refine ExD.take (i := 7) rfl (by kernel_rfl) (by first | exact fr_sub64 rfl rfl rfl (by omega) | exact fr_sub rfl rfl rfl) ((List.Sublist.cons_cons _ (List.Sublist.cons_cons _ (List.Sublist.cons _ (List.Sublist.refl _))))) rfl rfl rfl ?_
    refine ExD.op (i := 8) rfl (by kernel_rfl) rfl (op_ret rfl rfl rfl (c_decimal ((s.getD j 0) - 1) (by omega)) (fun w hw => TabB.get htab hw) rfl rfl (fun x5 hx5 => ⟨(List.Sublist.cons_cons _ (List.Sublist.cons_cons _ (List.Sublist.cons _ (List.Sublist.refl _)))), ?_⟩))
    refine ExD.take (i := 9) rfl (by kernel_rfl) (fr_lenS (l := Lib.itoa ((s.getD j 0) - 1)) rfl rfl rfl) ((List.Sublist.cons_cons _ (List.Sublist.cons_cons _ (List.Sublist.cons _ (List.Sublist.refl _))))) rfl rfl rfl ?_
    refine ExD.op (i := 10) rfl (by kernel_rfl) rfl (op_ret rfl rfl rfl (c_padded (a.l.getD j 0) ((Lib.itoa ((s.getD j 0) - 1)).length : Int) (by omega) (by omega)) (fun w hw => TabB.get htab hw) rfl rfl (fun x6 hx6 => ⟨(List.Sublist.cons_cons _ (List.Sublist.cons_cons _ (List.Sublist.cons _ (List.Sublist.refl _)))), ?_⟩))
    refine ExD.op (i := 11) rfl (by kernel_rfl) rfl (op_buildSlice (sz := 1) rfl rfl rfl rfl rfl rfl rfl rfl (by decide) rfl rfl rfl (fun r7 => ⟨(List.Sublist.cons _ (List.Sublist.cons_cons _ (List.Sublist.cons_cons _ (List.Sublist.cons _ (List.Sublist.refl _))))), ?_⟩))
    refine ExD.op (i := 12) rfl (by kernel_rfl) rfl (op_append (sz := 1) (bytes := 16) (i := 3) rfl rfl rfl rfl (Reads.row (i := 0) rfl) rfl (fun e => nomatch e) rfl rfl rfl rfl (by constructor <;> first | omega | (unfold maxLen; omega)) rfl rfl (fun A8 cA8 => ⟨(List.Sublist.cons _ (List.Sublist.cons_cons _ (List.Sublist.cons_cons _ (List.Sublist.cons _ (List.Sublist.refl _))))), ?_⟩))
    refine ExD.last (i := 13) rfl (by kernel_rfl) (by kernel_rfl) rfl (op_storeC (i := 2) rfl rfl rfl rfl rfl rfl rfl rfl rfl rfl ?_)
    refine ExD.done (by kernel_rfl) ?_
    exact ⟨rfl, (A8, cA8), 5, [1, 2, 3, 4], trivial, (pk3R (by rw [partsF_s, List.flatMap_append, ← hdp]; rfl)), rfl⟩
  · have hs := hs.keep hW
    have htab := htab.keep hW
    refine Ex.know (row_cap' (i := 2) rfl) (fun hcap => ?_)
    have hpl := partsF_len (dpart s a.l) s.length
    refine Ex.regSeq (ExL.pures 0 rfl ?_)
    refine ExL.free (fr_load rfl rfl rfl rfl (CellO.blk (i := 1) rfl rfl)) rfl rfl rfl ?_
    refine ExL.op rfl (op_ret rfl rfl rfl (c_Join (partsF (dpart s a.l) s.length) _ hpl _ _ [58] hcap (by omega) (Nat.le_trans (digT_le hS hD) (by decide))) (Reads.get (Reads.row (i := 2) rfl)) rfl rfl (fun x10 hx10 => ?_))
    refine ExL.pures 1 rfl ?_
    refine ExL.nil ?_
    refine Ex.ret ?_
    refine ⟨rfl, ?_⟩
    refine RetQ.mk () rfl (.tmp rfl .nil) (rfl) [] (rfl) rfl (trivial)
theorem e_62 : Enters Tryz.prog 62 := Enters.of Tryz.func62 rfl
theorem c_iDigitsText (s : List Int) (hu : Nums 255 s) (As : Option Addr) (cs : Nat) (hls : s.length ≤ maxLen) (a : Dig) (ha : Nums 255 a.l) : Ret Tryz.prog 62 [.slice As s.length cs, .agg (encD a).toArray] (fun w => Rd w As (s.flatMap (eI .u8)) ∧ TabO Tryz.prog w) (fun x : Unit => sv (digTx s a.l)) (fun x => []) (fun x => True) := by
  refine Ret.of e_62 Tryz.func62 rfl Tryz.ntmps62 rfl rfl (fun w hpre => ?_)
  have hs := hpre.1.base
  have htab := hpre.2
  have hm0 : maxLen = 9223372036854775807 := rfl
  refine Ex.regSeq (ExL.pures 0 rfl ?_)
  refine ExL.op rfl (op_box rfl rfl rfl rfl rfl (fun b1 => ?_))
  refine ExL.pures 1 rfl ?_
  refine ExL.nil ?_
  refine Ex.seq ?_
  refine Ex.regSeq (ExL.pures 1 rfl ?_)
  refine ExL.free (fr_loadN rfl rfl rfl rfl rfl (SegO.whole (i := 0) rfl)) rfl rfl rfl ?_
  refine ExL.op rfl (op_ret rfl rfl rfl (c_iValidDigits s (by assumption) _ _ (by omega) a (by assumption)) (Reads.get (Reads.old hs)) rfl rfl (fun x2 hx2 => ?_))
  refine ExL.pures 1 rfl ?_
  refine ExL.nil ?_
  refine Ex.cond rfl (fun hb3 => ?_) (fun hb3 => ?_)
  · replace hb3 := nb_t hb3
    refine Ex.regSeq (ExL.pures 1 rfl ?_)
    refine ExL.nil ?_
    refine Ex.ret ?_
    refine RetQ.mk () rfl (.tmp rfl .nil) (tS (by first | exact (digTx_f (by assumption)).symm | exact (digTx_t (by assumption)).symm)) [] (rfl) rfl (trivial)
  · replace hb3 := nb_f hb3
    refine Ex.skip ?_
    refine Ex.regSeq (ExL.pures 1 rfl ?_)
    refine ExL.free (fr_loadN rfl rfl rfl rfl rfl (SegO.whole (i := 0) rfl)) rfl rfl rfl ?_
    refine ExL.op rfl (op_ret rfl rfl rfl (c_text s (by first | assumption | simp_all) _ _ a (by assumption) (by first | assumption | simp_all)) (fun w hw => ⟨Reads.get (Reads.old hs) w hw, TabO.keep htab hw⟩) rfl rfl (fun x4 hx4 => ?_))
    refine ExL.pures 1 rfl ?_
    refine ExL.nil ?_
    refine Ex.ret ?_
    refine RetQ.mk () rfl (.tmp rfl .nil) (tS (by first | exact (digTx_f (by assumption)).symm | exact (digTx_t (by assumption)).symm)) [] (rfl) rfl (trivial)
end Go.Proofs.YtiibhahhjkaodaaGreatDoor

/- What these functions of the program hand back, each proved by walking its operations. -/
set_option linter.unusedVariables false
set_option linter.unusedSimpArgs false
set_option maxRecDepth 4000
namespace Go.Proofs.YtiibhahhjkaodaaGreatDoor
open Go Go.Sx Go.RowKit Go.W Go.Proofs
attribute [local irreducible] Ex ExL ExD Op1 Free RetQ MutQ Reads CellO SegO LoadsAs
theorem e_33 : Enters Tryz.prog 33 := Enters.of Tryz.func33 rfl
set_option maxHeartbeats 1000000 in
theorem c_iReadDigits (s : List Int) (hu : Nums 255 s) (As : Option Addr) (cs : Nat) (hls : s.length ≤ maxLen) (t : List UInt8) (hl : t.length ≤ 1048576) : Ret Tryz.prog 33 [.slice As s.length cs, sv t] (fun w => Rd w As (s.flatMap (eI .u8)) ∧ RdO 0 1 2 w ∧ TabO Tryz.prog w) (fun x : Dig × Int => .tuple #[.agg (encD x.1).toArray, .int .i64 x.2]) (fun x => []) (fun x => RdDig s t x) := by
  refine Ret.of e_33 Tryz.func33 rfl Tryz.ntmps33 rfl rfl (fun w hpre => ?_)
  have hs := hpre.1.base
  have hrd := hpre.2.1
  have htab := hpre.2.2
  have hpn := splitA_len 58 t []
  have hm0 : maxLen = 9223372036854775807 := rfl
  refine Ex.regSeq (ExL.pures 0 rfl ?_)
  refine ExL.op rfl (op_alloc rfl rfl rfl rfl rfl (fun b1 => ?_))
  refine ExL.pures 1 rfl ?_
  refine ExL.nil ?_
  refine Ex.seq ?_
  refine Ex.regSeq (ExL.pures 1 rfl ?_)
  refine ExL.op rfl (op_ret rfl rfl rfl (c_ValidStack _ (by assumption) _ _ (by first | assumption | omega | (unfold maxLen; omega))) (Reads.get (Reads.old hs)) rfl rfl (fun x2 hx2 => ?_))
  refine ExL.pures 1 rfl ?_
  refine ExL.nil ?_
  refine Ex.cond rfl (fun hb3 => ?_) (fun hb3 => ?_)
  · replace hb3 := nb_t hb3
    refine Ex.regSeq (ExL.pures 0 rfl ?_)
    refine ExL.free (fr_build rfl rfl rfl rfl) rfl rfl rfl ?_
    refine ExL.op rfl (op_storeC (i := 0) rfl rfl rfl rfl rfl rfl rfl rfl rfl rfl ?_)
    refine ExL.pures 1 rfl ?_
    refine ExL.nil ?_
    refine Ex.ret ?_
    refine RetQ.mk (dig0, 1) rfl (.cell rfl (.many rfl rfl rfl (SegO.whole (i := 0) rfl)) (.tmp rfl .nil)) (rfl) [] (rfl) rfl (rdDig_v (by assumption))
  · replace hb3 := nb_f hb3
    refine Ex.skip ?_
    have hv := (by assumption : validStack s = true)
    have hS := stk hv
    have h8 := hS.len8
    refine Ex.regSeq (ExL.pures 0 rfl ?_)
    refine ExL.free (fr_build rfl rfl rfl rfl) rfl rfl rfl ?_
    refine ExL.pures 1 rfl ?_
    refine ExL.op rfl (op_ret rfl rfl rfl (c_Split t 58 (by omega)) (fun w hw => RdO.keep hrd hw) rfl rfl (fun x4 hx4 => ?_))
    refine ExL.op rfl (op_alloc rfl rfl rfl rfl rfl (fun b5 => ?_))
    refine ExL.op rfl (op_storeC (i := 0) rfl rfl rfl rfl rfl rfl rfl rfl rfl rfl ?_)
    refine ExL.pures 1 rfl ?_
    refine ExL.nil ?_
    refine Ex.seq ?_
    refine Ex.regSeq (ExL.pures 4 rfl ?_)
    refine ExL.neq rfl rfl rfl rfl rfl rfl (fun h6 => ?_) (fun h6 => ?_)
    · refine ExL.nil ?_
      refine Ex.cond_t rfl ?_
      refine Ex.regSeq (ExL.pures 0 rfl ?_)
      refine ExL.free (fr_build rfl rfl rfl rfl) rfl rfl rfl ?_
      refine ExL.op rfl (op_storeC (i := 2) rfl rfl rfl rfl rfl rfl rfl rfl rfl rfl ?_)
      refine ExL.pures 1 rfl ?_
      refine ExL.nil ?_
      refine Ex.ret ?_
      refine RetQ.mk (dig0, 5) rfl (.cell rfl (.many rfl rfl rfl (SegO.whole (i := 2) rfl)) (.tmp rfl .nil)) (rfl) [] (rfl) rfl (rdDig_no (by assumption) (ndg_len hS (by omega)))
    · refine ExL.nil ?_
      refine Ex.cond_f rfl ?_
      refine Ex.skip ?_
      refine Ex.seq ?_
      refine Ex.regSeq (ExL.pures 3 rfl ?_)
      refine ExL.nil ?_
      refine Ex.block ?_
      refine Ex.loopK (X := DgS) (fun q => [(27, .int .i64 q.k)]) (fun q => [.blk b5 (q.d.flatMap (eI .u8)) 26]) (fun q => q.k ≤ s.length ∧ q.d.length = 8 ∧ Nums 255 q.d ∧ DigU s t q.d q.k) (fun q => s.length - q.k) (⟨0, zeros8⟩ : DgS) [(0, _), (1, _), (4, _), (6, _), (25, _), (26, _)] [_, _] 3 [0, 1, 2] ⟨rfl, trivial⟩ ⟨rfl, rfl, rfl, rfl, rfl, rfl, trivial⟩ (rfl) rfl ⟨Nat.zero_le _, rfl, nums_z, digU_0 s t⟩ (fun q hI => ?_)
      have hI : q.k ≤ s.length ∧ q.d.length = 8 ∧ Nums 255 q.d ∧ DigU s t q.d q.k := hI
      obtain ⟨hqk, hq8, hqn, hqd⟩ := hI
      refine Ex.regSeq (ExL.pures 0 rfl ?_)
      refine ExL.lss rfl rfl rfl rfl rfl rfl (fun h7 => ?_) (fun h7 => ?_)
      · refine ExL.nil ?_
        refine Ex.seq ?_
        refine Ex.cond_t rfl ?_
        refine Ex.skip ?_
        refine Ex.seq ?_
        refine Ex.block ?_
        have hwl := piece_le 58 t q.k
        refine Ex.regSeq (ExL.pures 1 rfl ?_)
        refine ExL.free (fr_indexAddr (sz := 1) rfl rfl rfl rfl rfl rfl (by omega)) rfl rfl rfl ?_
        refine ExL.free (fr_load rfl rfl rfl rfl (by first | exact cellN (Reads.row (i := 1) rfl) eSt_len ([] : List UInt8) 0 rfl (by omega) rfl | exact cellF (Reads.row (i := 1) rfl) eSt_len ([] : List UInt8) 0 rfl (by omega) rfl)) rfl rfl rfl ?_
        refine ExL.pures 2 rfl ?_
        refine ExL.nil ?_
        refine Ex.regSeq (ExL.pures 1 rfl ?_)
        refine ExL.op rfl (op_ret rfl rfl rfl (c_ParseUint ((splitA 58 [] t).getD q.k []) (by omega)) (fun w hw => RdO.keep hrd hw) rfl rfl (fun x8 hx8 => ?_))
        have hbx8 : 0 ≤ x8.1 ∧ x8.1 ≤ 127 := hx8.1
        refine ExL.pures 5 rfl ?_
        refine ExL.nil ?_
        refine Ex.seq ?_
        refine Ex.regSeq (ExL.pures 1 rfl ?_)
        refine ExL.free (fr_neq_err rfl rfl rfl rfl) rfl rfl rfl ?_
        refine ExL.nil ?_
        refine Ex.cond rfl (fun hb9 => ?_) (fun hb9 => ?_)
        · replace hb9 := nb_t hb9
          refine Ex.regSeq (ExL.pures 0 rfl ?_)
          refine ExL.free (fr_build rfl rfl rfl rfl) rfl rfl rfl ?_
          refine ExL.op rfl (op_storeC (i := 2) rfl rfl rfl rfl rfl rfl rfl rfl rfl rfl ?_)
          refine ExL.pures 1 rfl ?_
          refine ExL.nil ?_
          refine Ex.ret ?_
          refine RetQ.mk (dig0, 5) rfl (.cell rfl (.many rfl rfl rfl (SegO.whole (i := 2) rfl)) (.tmp rfl .nil)) (rfl) [] (rfl) rfl (rdDig_no hv (ndg_err hS (j := s.length - 1 - q.k) (by omega) (by rw [show s.length - 1 - (s.length - 1 - q.k) = q.k by omega]; exact hx8.2.2 (by assumption))))
        · replace hb9 := nb_f hb9
          refine Ex.skip ?_
          obtain ⟨j, hj⟩ : ∃ j : Nat, (s.length : Int) - 1 - q.k = (j : Int) := ⟨s.length - 1 - q.k, by omega⟩
          have hjj : s.length - 1 - q.k = j := by omega
          refine Ex.region (ExL.pures 2 rfl ?_)
          refine ExL.free (by first | exact fr_sub64 rfl rfl rfl (by omega) | exact fr_sub rfl rfl rfl) rfl rfl rfl ?_
          refine ExL.pures 1 rfl ?_
          refine ExL.free (fr_sub64J j rfl rfl rfl hj (by omega)) rfl rfl rfl ?_
          refine ExL.pures 1 rfl ?_
          refine ExL.free (by first | exact fr_conv_u8 rfl rfl rfl rfl (by omega) | exact fr_conv rfl rfl rfl rfl) rfl rfl rfl ?_
          refine ExL.free (fr_indexAddr_b (sz := 1) rfl rfl rfl rfl rfl (by omega)) rfl rfl rfl ?_
          refine ExL.op rfl (op_store (i := 0) rfl rfl rfl rfl rfl rfl rfl rfl (room (eI_len .u8) (k := j) (by omega) (by simp) rfl) rfl ?_)
          refine ExL.nil ?_
          refine Ex.region (ExL.pures 0 rfl ?_)
          refine ExL.free (by first | exact fr_add64 rfl rfl rfl (by omega) | exact fr_add rfl rfl rfl) rfl rfl rfl ?_
          refine ExL.pures 1 rfl ?_
          refine ExL.nil ?_
          refine Hand.mk (⟨q.k + 1, q.d.set j x8.1⟩ : DgS) 3 [0, 1, 2] ⟨rfl, trivial⟩ ⟨rfl, rfl, rfl, rfl, rfl, rfl, trivial⟩ (pkB (set_put (eI_len .u8) q.d j _ (by omega) (by simp) rfl)) rfl (⟨by dsimp only; omega, by rw [List.length_set]; exact hq8, nums_set hqn ⟨by omega, by omega⟩, digU_s hq8 (by omega) (by omega) hjj.symm hqd (hx8.2.1 (by assumption))⟩) (by dsimp only; omega)
      · refine ExL.nil ?_
        refine Ex.seq ?_
        refine Ex.cond_f rfl ?_
        refine Ex.exit ?_
        have hks : q.k = s.length := by omega
        rw [← encD_dig hq8]
        have hnd : Nums 255 (dig q.d).l := by rw [dig_l hq8]; exact hqn
        refine Ex.seq ?_
        refine Ex.regSeq (ExL.pures 1 rfl ?_)
        refine ExL.free (fr_loadN rfl rfl rfl rfl rfl (SegO.whole (i := 0) rfl)) rfl rfl rfl ?_
        refine ExL.op rfl (op_ret rfl rfl rfl (c_iDigitsText s (by assumption) _ _ (by omega) (dig q.d) (by assumption)) (fun w hw => ⟨Reads.get (Reads.old hs) w hw, TabO.keep htab hw⟩) rfl rfl (fun x10 hx10 => ?_))
        refine ExL.pures 1 rfl ?_
        refine ExL.free (fr_neqS (l := (digTx s (dig q.d).l)) (r := t) rfl rfl rfl) rfl rfl rfl ?_
        refine ExL.nil ?_
        refine Ex.cond rfl (fun hb11 => ?_) (fun hb11 => ?_)
        · replace hb11 := nd_t hb11
          refine Ex.regSeq (ExL.pures 0 rfl ?_)
          refine ExL.free (fr_build rfl rfl rfl rfl) rfl rfl rfl ?_
          refine ExL.op rfl (op_storeC (i := 2) rfl rfl rfl rfl rfl rfl rfl rfl rfl rfl ?_)
          refine ExL.pures 1 rfl ?_
          refine ExL.nil ?_
          refine Ex.ret ?_
          refine RetQ.mk (dig0, 5) rfl (.cell rfl (.many rfl rfl rfl (SegO.whole (i := 2) rfl)) (.tmp rfl .nil)) (rfl) [] (rfl) rfl (rdDig_n hv hq8 (by rw [← hks]; exact hqd) (by assumption))
        · replace hb11 := nd_f hb11
          refine Ex.skip ?_
          refine Ex.regSeq (ExL.pures 0 rfl ?_)
          refine ExL.free (fr_loadN rfl rfl rfl rfl rfl (SegO.whole (i := 0) rfl)) rfl rfl rfl ?_
          refine ExL.op rfl (op_storeC (i := 2) rfl rfl rfl rfl rfl rfl rfl rfl rfl rfl ?_)
          refine ExL.pures 1 rfl ?_
          refine ExL.nil ?_
          refine Ex.ret ?_
          refine RetQ.mk (dig q.d, 0) rfl (.cell rfl (.many rfl rfl rfl (SegO.whole (i := 2) rfl)) (.tmp rfl .nil)) (rfl) [] (rfl) rfl (rdDig_i hv hq8 hqn (by omega) (by rw [← hks]; exact hqd) (by assumption))
end Go.Proofs.YtiibhahhjkaodaaGreatDoor

/- What these functions of the program hand back, each proved by walking its operations. -/
set_option linter.unusedVariables false
set_option linter.unusedSimpArgs false
set_option maxRecDepth 4000
namespace Go.Proofs.YtiibhahhjkaodaaGreatDoor
open Go Go.Sx Go.RowKit Go.W Go.Proofs
attribute [local irreducible] Ex ExL ExD Op1 Free RetQ MutQ Reads CellO SegO LoadsAs
theorem e_32 : Enters Tryz.prog 32 := Enters.of Tryz.func32 rfl
theorem c_readDecimal (t : List UInt8) (hl : t.length ≤ 1048576) : Ret Tryz.prog 32 [sv t] (fun w => RdO 0 1 2 w ∧ TabO Tryz.prog w) (fun x : Int × Bool => .tuple #[.int .i64 x.1, .bool x.2]) (fun x => []) (fun x => RDec t x) := by
  refine Ret.of e_32 Tryz.func32 rfl Tryz.ntmps32 rfl rfl (fun w hpre => ?_)
  have hrd := hpre.1
  have htab := hpre.2
  have hm0 : maxLen = 9223372036854775807 := rfl
  refine Ex.regSeq (ExL.pures 2 rfl ?_)
  refine ExL.nil ?_
  refine Ex.regSeq (ExL.pures 1 rfl ?_)
  refine ExL.op rfl (op_ret rfl rfl rfl (c_ParseInt t (by omega)) (fun w hw => RdO.keep hrd hw) rfl rfl (fun x1 hx1 => ?_))
  have hbx1 : -9223372036854775808 ≤ x1.1 ∧ x1.1 ≤ 9223372036854775807 := hx1.1
  refine ExL.pures 5 rfl ?_
  refine ExL.nil ?_
  refine Ex.regSeq (ExL.pures 2 rfl ?_)
  refine ExL.free (fr_eql_err rfl rfl rfl rfl) rfl rfl rfl ?_
  refine ExL.pures 1 rfl ?_
  refine ExL.bool (d := 14) rfl (fun hb2 => ?_) (fun hb2 => ?_)
  · refine ExL.pures 1 rfl ?_
    refine ExL.op rfl (op_ret rfl rfl rfl (c_decimal x1.1 (by omega)) (fun w hw => TabO.keep htab hw) rfl rfl (fun x3 hx3 => ?_))
    refine ExL.pures 1 rfl ?_
    refine ExL.free (fr_eqlS (l := Lib.itoa x1.1) (r := t) rfl rfl rfl) rfl rfl rfl ?_
    refine ExL.pures 3 rfl ?_
    refine ExL.nil ?_
    refine Ex.ret ?_
    refine RetQ.mk (x1.1, decide (Lib.itoa x1.1 = t)) rfl (.tmp rfl (.tmp rfl .nil)) (rfl) [] (rfl) rfl (rdec_t hx1 (by assumption))
  · refine ExL.pures 7 rfl ?_
    refine ExL.nil ?_
    refine Ex.ret ?_
    refine RetQ.mk (x1.1, false) rfl (.tmp rfl (.tmp rfl .nil)) (rfl) [] (rfl) rfl (rdec_f hx1 (by assumption))
end Go.Proofs.YtiibhahhjkaodaaGreatDoor

/- What these functions of the program hand back, each proved by walking its operations. -/
set_option linter.unusedVariables false
set_option linter.unusedSimpArgs false
set_option maxRecDepth 4000
namespace Go.Proofs.YtiibhahhjkaodaaGreatDoor
open Go Go.Sx Go.RowKit Go.W Go.Proofs
attribute [local irreducible] Ex ExL ExD Op1 Free RetQ MutQ Reads CellO SegO LoadsAs
theorem e_13 : Enters Tryz.prog 13 := Enters.of Tryz.func13 rfl
theorem c_iTicketText (s : List Int) (hu : Nums 255 s) (As : Option Addr) (cs : Nat) (hls : s.length ≤ maxLen) (t : VTic) (ht : OkTic t) : Ret Tryz.prog 13 [.slice As s.length cs, .agg (encT t).toArray] (fun w => Rd w As (s.flatMap (eI .u8)) ∧ TabO Tryz.prog w) (fun x : Unit => sv (ticTx s t)) (fun x => []) (fun x => True) := by
  refine Ret.of e_13 Tryz.func13 rfl Tryz.ntmps13 rfl rfl (fun w hpre => ?_)
  have hs := hpre.1.base
  have htab := hpre.2
  have hm0 : maxLen = 9223372036854775807 := rfl
  refine Ex.regSeq (ExL.pures 0 rfl ?_)
  refine ExL.op rfl (op_box rfl rfl rfl rfl rfl (fun b1 => ?_))
  refine ExL.pures 1 rfl ?_
  refine ExL.nil ?_
  refine Ex.seq ?_
  refine Ex.regSeq (ExL.pures 1 rfl ?_)
  refine ExL.op rfl (op_ret rfl rfl rfl (c_ValidStack _ (by assumption) _ _ (by first | assumption | omega | (unfold maxLen; omega))) (Reads.get (Reads.old hs)) rfl rfl (fun x2 hx2 => ?_))
  refine ExL.pures 2 rfl ?_
  refine ExL.bool (d := 8) rfl (fun hb3 => ?_) (fun hb3 => ?_)
  · replace hb3 := nb_t hb3
    refine ExL.pures 5 rfl ?_
    refine ExL.nil ?_
    refine Ex.cond_t rfl ?_
    refine Ex.regSeq (ExL.pures 1 rfl ?_)
    refine ExL.nil ?_
    refine Ex.ret ?_
    refine RetQ.mk () rfl (.tmp rfl .nil) (tS (by first | exact (ticTx_0 (by assumption)).symm | exact (ticTx_1 (by assumption)).symm | exact (ticTx_t (by assumption) (by assumption)).symm)) [] (rfl) rfl (trivial)
  · replace hb3 := nb_f hb3
    refine ExL.pures 1 rfl ?_
    refine ExL.free (fr_loadN rfl rfl rfl rfl rfl (SegO.whole (i := 0) rfl)) rfl rfl rfl ?_
    refine ExL.op rfl (op_ret rfl rfl rfl (c_genuine s (by first | assumption | simp_all) (by assumption) _ _ (by omega) t (by first | assumption | exact all_at hok _ (by omega))) (Reads.get (Reads.old hs)) rfl rfl (fun x4 hx4 => ?_))
    refine ExL.pures 2 rfl ?_
    refine ExL.nil ?_
    refine Ex.cond rfl (fun hb5 => ?_) (fun hb5 => ?_)
    · replace hb5 := nb_t hb5
      refine Ex.regSeq (ExL.pures 1 rfl ?_)
      refine ExL.nil ?_
      refine Ex.ret ?_
      refine RetQ.mk () rfl (.tmp rfl .nil) (tS (by first | exact (ticTx_0 (by assumption)).symm | exact (ticTx_1 (by assumption)).symm | exact (ticTx_t (by assumption) (by assumption)).symm)) [] (rfl) rfl (trivial)
    · replace hb5 := nb_f hb5
      refine Ex.skip ?_
      have hg := (by assumption : genT s t = true)
      obtain ⟨hn1, hvd, hck1⟩ := gen_of hg
      have hS := stk (by assumption : validStack s = true)
      have ha : Nums 255 t.shows.l := ht.2.1
      have hck := ht.2.2
      have hD := digOk hS.len8 ha hvd
      have hdl := digT_le hS hD
      have hi1 := itoa_le (n := t.number) (by omega)
      have hi2 := itoa_le (n := t.check) (by omega)
      refine Ex.drawSeqM rfl ?_
      refine ExD.take (i := 0) rfl (by kernel_rfl) (pureVal_ok rfl) ((List.Sublist.refl _)) rfl rfl rfl ?_
      refine ExD.take (i := 1) rfl (by kernel_rfl) (fr_load rfl rfl rfl rfl (CellO.blk (i := 0) rfl rfl)) ((List.Sublist.refl _)) rfl rfl rfl ?_
      refine ExD.take (i := 4) rfl (by kernel_rfl) (pureVal_ok rfl) ((List.Sublist.refl _)) rfl rfl rfl ?_
      refine ExD.take (i := 5) rfl (by kernel_rfl) (pureVal_ok rfl) ((List.Sublist.refl _)) rfl rfl rfl ?_
      refine ExD.take (i := 6) rfl (by kernel_rfl) (fr_loadN rfl rfl rfl rfl rfl (SegO.part (i := 0) 8 rfl)) ((List.Sublist.refl _)) rfl rfl rfl ?_
      refine ExD.take (i := 10) rfl (by kernel_rfl) (pureVal_ok rfl) ((List.Sublist.refl _)) rfl rfl rfl ?_
      refine ExD.take (i := 11) rfl (by kernel_rfl) (fr_load rfl rfl rfl rfl (CellO.blk (i := 0) rfl rfl)) ((List.Sublist.refl _)) rfl rfl rfl ?_
      refine ExD.take (i := 12) rfl (by kernel_rfl) (by first | exact fr_conv64 rfl rfl rfl rfl (by omega) | exact fr_conv rfl rfl rfl rfl) ((List.Sublist.refl _)) rfl rfl rfl ?_
      refine ExD.op (i := 2) rfl (by kernel_rfl) rfl (op_ret rfl rfl rfl (c_decimal t.number (by omega)) (fun w hw => TabO.keep htab hw) rfl rfl (fun x6 hx6 => ⟨(List.Sublist.refl _), ?_⟩))
      refine ExD.take (i := 3) rfl (by kernel_rfl) (fr_addS (l := Lib.itoa t.number) (r := [32]) rfl rfl rfl (by first | omega | (simp only [List.length_append, List.length_cons, List.length_nil]; omega))) ((List.Sublist.refl _)) rfl rfl rfl ?_
      refine ExD.op (i := 7) rfl (by kernel_rfl) rfl (op_ret rfl rfl rfl (c_text s (by first | assumption | simp_all) _ _ t.shows (by assumption) (by first | assumption | simp_all)) (fun w hw => ⟨Reads.get (Reads.old hs) w hw, TabO.keep htab hw⟩) rfl rfl (fun x7 hx7 => ⟨(List.Sublist.refl _), ?_⟩))
      refine ExD.take (i := 8) rfl (by kernel_rfl) (fr_addS (l := (Lib.itoa t.number ++ [32])) (r := (digT s t.shows.l)) rfl rfl rfl (by first | omega | (simp only [List.length_append, List.length_cons, List.length_nil]; omega))) ((List.Sublist.refl _)) rfl rfl rfl ?_
      refine ExD.take (i := 9) rfl (by kernel_rfl) (fr_addS (l := ((Lib.itoa t.number ++ [32]) ++ (digT s t.shows.l))) (r := [32]) rfl rfl rfl (by first | omega | (simp only [List.length_append, List.length_cons, List.length_nil]; omega))) ((List.Sublist.refl _)) rfl rfl rfl ?_
      refine ExD.op (i := 13) rfl (by kernel_rfl) rfl (op_ret rfl rfl rfl (c_decimal t.check (by omega)) (fun w hw => TabO.keep htab hw) rfl rfl (fun x8 hx8 => ⟨(List.Sublist.refl _), ?_⟩))
      refine ExD.take (i := 14) rfl (by kernel_rfl) (fr_addS (l := (((Lib.itoa t.number ++ [32]) ++ (digT s t.shows.l)) ++ [32])) (r := Lib.itoa t.check) rfl rfl rfl (by first | omega | (simp only [List.length_append, List.length_cons, List.length_nil]; omega))) ((List.Sublist.refl _)) rfl rfl rfl ?_
      refine ExD.take (i := 15) rfl (by kernel_rfl) (pureVal_ok rfl) ((List.Sublist.refl _)) rfl rfl rfl ?_
      refine ExD.done (by kernel_rfl) ?_
      refine Ex.ret ?_
      refine RetQ.mk () rfl (.tmp rfl .nil) (tS (by first | exact (ticTx_0 (by assumption)).symm | exact (ticTx_1 (by assumption)).symm | exact (ticTx_t (by assumption) (by assumption)).symm)) [] (rfl) rfl (trivial)
end Go.Proofs.YtiibhahhjkaodaaGreatDoor

/- What these functions of the program hand back, each proved by walking its operations. -/
set_option linter.unusedVariables false
set_option linter.unusedSimpArgs false
set_option maxRecDepth 4000
namespace Go.Proofs.YtiibhahhjkaodaaGreatDoor
open Go Go.Sx Go.RowKit Go.W Go.Proofs
attribute [local irreducible] Ex ExL ExD Op1 Free RetQ MutQ Reads CellO SegO LoadsAs
theorem e_12 : Enters Tryz.prog 12 := Enters.of Tryz.func12 rfl
set_option maxHeartbeats 1000000 in
theorem c_iReadTicket (s : List Int) (hu : Nums 255 s) (As : Option Addr) (cs : Nat) (hls : s.length ≤ maxLen) (t : List UInt8) (hl : t.length ≤ 1048576) : Ret Tryz.prog 12 [.slice As s.length cs, sv t] (fun w => Rd w As (s.flatMap (eI .u8)) ∧ RdO 0 1 2 w ∧ TabO Tryz.prog w) (fun x : VTic × Int => .tuple #[.agg (encT x.1).toArray, .int .i64 x.2]) (fun x => []) (fun x => RdTic s t x) := by
  refine Ret.of e_12 Tryz.func12 rfl Tryz.ntmps12 rfl rfl (fun w hpre => ?_)
  have hs := hpre.1.base
  have hrd := hpre.2.1
  have htab := hpre.2.2
  have htp0 := piece_le 32 t 0
  have htp1 := piece_le 32 t 1
  have htp2 := piece_le 32 t 2
  have hm0 : maxLen = 9223372036854775807 := rfl
  refine Ex.regSeq (ExL.pures 0 rfl ?_)
  refine ExL.op rfl (op_alloc rfl rfl rfl rfl rfl (fun b1 => ?_))
  refine ExL.pures 1 rfl ?_
  refine ExL.nil ?_
  refine Ex.seq ?_
  refine Ex.regSeq (ExL.pures 1 rfl ?_)
  refine ExL.op rfl (op_ret rfl rfl rfl (c_ValidStack _ (by assumption) _ _ (by first | assumption | omega | (unfold maxLen; omega))) (Reads.get (Reads.old hs)) rfl rfl (fun x2 hx2 => ?_))
  refine ExL.pures 1 rfl ?_
  refine ExL.nil ?_
  refine Ex.cond rfl (fun hb3 => ?_) (fun hb3 => ?_)
  · replace hb3 := nb_t hb3
    refine Ex.regSeq (ExL.pures 0 rfl ?_)
    refine ExL.free (fr_build rfl rfl rfl rfl) rfl rfl rfl ?_
    refine ExL.op rfl (op_storeC (i := 0) rfl rfl rfl rfl rfl rfl rfl rfl rfl rfl ?_)
    refine ExL.pures 1 rfl ?_
    refine ExL.nil ?_
    refine Ex.ret ?_
    refine RetQ.mk (tic0, 1) rfl (.cell rfl (.many rfl rfl rfl (SegO.whole (i := 0) rfl)) (.tmp rfl .nil)) (rfl) [] (rfl) rfl (rdTic_v (by assumption))
  · replace hb3 := nb_f hb3
    refine Ex.skip ?_
    have hv := (by assumption : validStack s = true)
    have hS := stk hv
    have h8 := hS.len8
    refine Ex.regSeq (ExL.pures 1 rfl ?_)
    refine ExL.op rfl (op_ret rfl rfl rfl (c_Split t 32 (by omega)) (fun w hw => RdO.keep hrd hw) rfl rfl (fun x4 hx4 => ?_))
    refine ExL.pures 1 rfl ?_
    refine ExL.nil ?_
    refine Ex.seq ?_
    refine Ex.regSeq (ExL.pures 2 rfl ?_)
    refine ExL.neq rfl rfl rfl rfl rfl rfl (fun h5 => ?_) (fun h5 => ?_)
    · refine ExL.nil ?_
      refine Ex.cond_t rfl ?_
      refine Ex.regSeq (ExL.pures 0 rfl ?_)
      refine ExL.free (fr_build rfl rfl rfl rfl) rfl rfl rfl ?_
      refine ExL.op rfl (op_storeC (i := 1) rfl rfl rfl rfl rfl rfl rfl rfl rfl rfl ?_)
      refine ExL.pures 1 rfl ?_
      refine ExL.nil ?_
      refine Ex.ret ?_
      refine RetQ.mk (tic0, 5) rfl (.cell rfl (.many rfl rfl rfl (SegO.whole (i := 1) rfl)) (.tmp rfl .nil)) (rfl) [] (rfl) rfl (rdTic_no hv (nt_len hv (by omega)))
    · refine ExL.nil ?_
      refine Ex.cond_f rfl ?_
      refine Ex.skip ?_
      refine Ex.regSeq (ExL.pures 1 rfl ?_)
      refine ExL.free (fr_indexAddr (sz := 1) rfl rfl rfl rfl rfl rfl (by omega)) rfl rfl rfl ?_
      refine ExL.free (fr_load rfl rfl rfl rfl (cellJ (i := 0) (0) (Reads.row (i := 0) rfl) eSt_len ([] : List UInt8) 0 rfl (by omega) (by omega) rfl)) rfl rfl rfl ?_
      refine ExL.op rfl (op_ret rfl rfl rfl (c_readDecimal ((splitA 32 [] t).getD 0 []) (by omega)) (fun w hw => ⟨RdO.keep hrd hw, TabO.keep htab hw⟩) rfl rfl (fun x6 hx6 => ?_))
      have hbx6 : -9223372036854775808 ≤ x6.1 ∧ x6.1 ≤ 9223372036854775807 := hx6.1
      refine ExL.pures 5 rfl ?_
      refine ExL.nil ?_
      refine Ex.regSeq (ExL.pures 2 rfl ?_)
      refine ExL.free (fr_indexAddr (sz := 1) rfl rfl rfl rfl rfl rfl (by omega)) rfl rfl rfl ?_
      refine ExL.free (fr_load rfl rfl rfl rfl (cellJ (i := 1) (1) (Reads.row (i := 0) rfl) eSt_len ([] : List UInt8) 0 rfl (by omega) (by omega) rfl)) rfl rfl rfl ?_
      refine ExL.op rfl (op_ret rfl rfl rfl (c_iReadDigits s (by assumption) _ _ (by omega) ((splitA 32 [] t).getD 1 []) (by omega)) (fun w hw => ⟨Reads.get (Reads.old hs) w hw, RdO.keep hrd hw, TabO.keep htab hw⟩) rfl rfl (fun x7 hx7 => ?_))
      refine ExL.pures 3 rfl ?_
      refine ExL.op rfl (op_alloc rfl rfl rfl rfl rfl (fun b8 => ?_))
      refine ExL.op rfl (op_storeC (i := 0) rfl rfl rfl rfl rfl rfl rfl rfl rfl rfl ?_)
      refine ExL.pures 1 rfl ?_
      refine ExL.nil ?_
      refine Ex.regSeq (ExL.pures 1 rfl ?_)
      refine ExL.free (fr_indexAddr (sz := 1) rfl rfl rfl rfl rfl rfl (by omega)) rfl rfl rfl ?_
      refine ExL.free (fr_load rfl rfl rfl rfl (cellJ (i := 2) (2) (Reads.row (i := 1) rfl) eSt_len ([] : List UInt8) 0 rfl (by omega) (by omega) rfl)) rfl rfl rfl ?_
      refine ExL.op rfl (op_ret rfl rfl rfl (c_readDecimal ((splitA 32 [] t).getD 2 []) (by omega)) (fun w hw => ⟨RdO.keep hrd hw, TabO.keep htab hw⟩) rfl rfl (fun x9 hx9 => ?_))
      have hbx9 : -9223372036854775808 ≤ x9.1 ∧ x9.1 ≤ 9223372036854775807 := hx9.1
      refine ExL.pures 5 rfl ?_
      refine ExL.nil ?_
      have hok : OkTic (⟨x6.1, x7.1, IntKind.u16.wrap x9.1⟩ : VTic) := ⟨hx6.1, rdDig_num hx7, by show 0 ≤ IntKind.u16.wrap _; rw [IntKind.wrap_u16]; omega, by show IntKind.u16.wrap _ ≤ 65535; rw [IntKind.wrap_u16]; omega⟩
      refine Ex.regSeq (ExL.pures 1 rfl ?_)
      refine ExL.free (fr_loadN rfl rfl rfl rfl rfl (SegO.whole (i := 0) rfl)) rfl rfl rfl ?_
      refine ExL.pures 1 rfl ?_
      refine ExL.free (by first | exact fr_conv_u16 rfl rfl rfl rfl (by omega) | exact fr_conv rfl rfl rfl rfl) rfl rfl rfl ?_
      refine ExL.free (fr_build (cells := encT (⟨x6.1, x7.1, IntKind.u16.wrap x9.1⟩ : VTic)) rfl rfl rfl (by kernel_rfl)) rfl rfl rfl ?_
      refine ExL.op rfl (op_alloc rfl rfl rfl rfl rfl (fun b10 => ?_))
      refine ExL.op rfl (op_storeC (i := 0) rfl rfl rfl rfl rfl rfl rfl rfl rfl rfl ?_)
      refine ExL.nil ?_
      refine Ex.seq ?_
      refine Ex.regSeq (ExL.pures 3 rfl ?_)
      refine ExL.bool (d := 53) rfl (fun hb11 => ?_) (fun hb11 => ?_)
      · replace hb11 := nb_t hb11
        refine ExL.pures 14 rfl ?_
        refine ExL.nil ?_
        refine Ex.cond_t rfl ?_
        refine Ex.regSeq (ExL.pures 0 rfl ?_)
        refine ExL.free (fr_build rfl rfl rfl rfl) rfl rfl rfl ?_
        refine ExL.op rfl (op_storeC (i := 3) rfl rfl rfl rfl rfl rfl rfl rfl rfl rfl ?_)
        refine ExL.pures 1 rfl ?_
        refine ExL.nil ?_
        refine Ex.ret ?_
        refine RetQ.mk (tic0, 5) rfl (.cell rfl (.many rfl rfl rfl (SegO.whole (i := 3) rfl)) (.tmp rfl .nil)) (rfl) [] (rfl) rfl (rdTic_no hv (nt_i hv hx6 hx7 hx9 (by rintro ⟨h1, h2, h3, h4⟩; first | omega | simp_all)))
      · replace hb11 := nb_f hb11
        refine ExL.pures 4 rfl ?_
        refine ExL.bool (d := 57) rfl (fun hb12 => ?_) (fun hb12 => ?_)
        · replace hb12 := nb_t hb12
          refine ExL.pures 10 rfl ?_
          refine ExL.nil ?_
          refine Ex.cond_t rfl ?_
          refine Ex.regSeq (ExL.pures 0 rfl ?_)
          refine ExL.free (fr_build rfl rfl rfl rfl) rfl rfl rfl ?_
          refine ExL.op rfl (op_storeC (i := 3) rfl rfl rfl rfl rfl rfl rfl rfl rfl rfl ?_)
          refine ExL.pures 1 rfl ?_
          refine ExL.nil ?_
          refine Ex.ret ?_
          refine RetQ.mk (tic0, 5) rfl (.cell rfl (.many rfl rfl rfl (SegO.whole (i := 3) rfl)) (.tmp rfl .nil)) (rfl) [] (rfl) rfl (rdTic_no hv (nt_i hv hx6 hx7 hx9 (by rintro ⟨h1, h2, h3, h4⟩; first | omega | simp_all)))
        · replace hb12 := nb_f hb12
          refine ExL.pures 1 rfl ?_
          refine ExL.neq rfl rfl rfl rfl rfl rfl (fun h13 => ?_) (fun h13 => ?_)
          · refine ExL.pures 8 rfl ?_
            refine ExL.nil ?_
            refine Ex.cond_t rfl ?_
            refine Ex.regSeq (ExL.pures 0 rfl ?_)
            refine ExL.free (fr_build rfl rfl rfl rfl) rfl rfl rfl ?_
            refine ExL.op rfl (op_storeC (i := 3) rfl rfl rfl rfl rfl rfl rfl rfl rfl rfl ?_)
            refine ExL.pures 1 rfl ?_
            refine ExL.nil ?_
            refine Ex.ret ?_
            refine RetQ.mk (tic0, 5) rfl (.cell rfl (.many rfl rfl rfl (SegO.whole (i := 3) rfl)) (.tmp rfl .nil)) (rfl) [] (rfl) rfl (rdTic_no hv (nt_i hv hx6 hx7 hx9 (by rintro ⟨h1, h2, h3, h4⟩; first | omega | simp_all)))
          · refine ExL.pures 3 rfl ?_
            refine ExL.free (fr_loadN rfl rfl rfl rfl rfl (SegO.whole (i := 0) rfl)) rfl rfl rfl ?_
            refine ExL.op rfl (op_ret rfl rfl rfl (c_iTicketText s (by assumption) _ _ (by omega) (⟨x6.1, x7.1, IntKind.u16.wrap x9.1⟩ : VTic) (by assumption)) (fun w hw => ⟨Reads.get (Reads.old hs) w hw, TabO.keep htab hw⟩) rfl rfl (fun x14 hx14 => ?_))
            refine ExL.pures 1 rfl ?_
            refine ExL.free (fr_neqS (l := (ticTx s (⟨x6.1, x7.1, IntKind.u16.wrap x9.1⟩ : VTic))) (r := t) rfl rfl rfl) rfl rfl rfl ?_
            refine ExL.pures 1 rfl ?_
            refine ExL.nil ?_
            refine Ex.cond rfl (fun hb15 => ?_) (fun hb15 => ?_)
            · replace hb15 := nd_t hb15
              refine Ex.regSeq (ExL.pures 0 rfl ?_)
              refine ExL.free (fr_build rfl rfl rfl rfl) rfl rfl rfl ?_
              refine ExL.op rfl (op_storeC (i := 3) rfl rfl rfl rfl rfl rfl rfl rfl rfl rfl ?_)
              refine ExL.pures 1 rfl ?_
              refine ExL.nil ?_
              refine Ex.ret ?_
              refine RetQ.mk (tic0, 5) rfl (.cell rfl (.many rfl rfl rfl (SegO.whole (i := 3) rfl)) (.tmp rfl .nil)) (rfl) [] (rfl) rfl (rdTic_no hv (nt_i hv hx6 hx7 hx9 (by rintro ⟨h1, h2, h3, h4⟩; first | omega | simp_all)))
            · replace hb15 := nd_f hb15
              refine Ex.skip ?_
              refine Ex.regSeq (ExL.pures 0 rfl ?_)
              refine ExL.free (fr_loadN rfl rfl rfl rfl rfl (SegO.whole (i := 0) rfl)) rfl rfl rfl ?_
              refine ExL.op rfl (op_storeC (i := 3) rfl rfl rfl rfl rfl rfl rfl rfl rfl rfl ?_)
              refine ExL.pures 1 rfl ?_
              refine ExL.nil ?_
              refine Ex.ret ?_
              refine RetQ.mk ((⟨x6.1, x7.1, IntKind.u16.wrap x9.1⟩ : VTic), 0) rfl (.cell rfl (.many rfl rfl rfl (SegO.whole (i := 3) rfl)) (.tmp rfl .nil)) (rfl) [] (rfl) rfl (rdTic_i hv (by omega) hok (by assumption))
end Go.Proofs.YtiibhahhjkaodaaGreatDoor

/- What these functions of the program hand back, each proved by walking its operations. -/
set_option linter.unusedVariables false
set_option linter.unusedSimpArgs false
set_option maxRecDepth 4000
namespace Go.Proofs.YtiibhahhjkaodaaGreatDoor
open Go Go.Sx Go.RowKit Go.W Go.Proofs
attribute [local irreducible] Ex ExL ExD Op1 Free RetQ MutQ Reads CellO SegO LoadsAs
theorem e_3 : Enters Tryz.prog 3 := Enters.of Tryz.func3 rfl
set_option maxHeartbeats 2000000 in
theorem w_FnTickets (s : List Int) (hus : Nums 255 s) (As : Option Addr) (cs : Nat) (hls : s.length ≤ maxLen) (t : List Int) (hut : Nums 255 t) (At : Option Addr) (ct : Nat) (hlt : t.length ≤ maxLen) : Ret Tryz.prog 3 [.slice As s.length cs, .slice At t.length ct] (fun w => (Rd w As (s.flatMap (eI .u8)) ∧ Rd w At (t.flatMap (eI .u8))) ∧ RdO 0 1 2 w ∧ TabO Tryz.prog w) (fun x : Unit => .bool true) (fun x => []) (fun x => True) := by
  refine Ret.of e_3 Tryz.func3 rfl Tryz.ntmps3 rfl rfl (fun w hpre => ?_)
  have hs := hpre.1.1.base
  have ht := hpre.1.2.base
  have hrd := hpre.2.1
  have htab := hpre.2.2
  have hm0 : maxLen = 9223372036854775807 := rfl
  refine Ex.regSeq (ExL.pures 1 rfl ?_)
  refine ExL.nil ?_
  refine Ex.seq ?_
  refine Ex.regSeq (ExL.pures 1 rfl ?_)
  refine ExL.op rfl (op_ret rfl rfl rfl (c_f6big s _ _ (by omega)) (fun _ _ => trivial) rfl rfl (fun x1 hx1 => ?_))
  refine ExL.pures 1 rfl ?_
  refine ExL.bool (d := 39) rfl (fun hb2 => ?_) (fun hb2 => ?_)
  · replace hb2 := of_decide_eq_true hb2
    refine ExL.pures 3 rfl ?_
    refine ExL.nil ?_
    refine Ex.cond_t rfl ?_
    refine Ex.regSeq (ExL.pures 1 rfl ?_)
    refine ExL.nil ?_
    refine Ex.ret ?_
    refine RetQ.mk () rfl (.tmp rfl .nil) (tB (by first | rfl | (exfalso; exact absurd (by assumption : sameV _ _ = false) (by rw [sameV_refl]; simp)))) [] (rfl) rfl (trivial)
  · replace hb2 := of_decide_eq_false hb2
    refine ExL.pures 1 rfl ?_
    refine ExL.op rfl (op_ret rfl rfl rfl (c_f6big t _ _ (by omega)) (fun _ _ => trivial) rfl rfl (fun x3 hx3 => ?_))
    refine ExL.pures 1 rfl ?_
    refine ExL.nil ?_
    refine Ex.cond rfl (fun hb4 => ?_) (fun hb4 => ?_)
    · replace hb4 := of_decide_eq_true hb4
      refine Ex.regSeq (ExL.pures 1 rfl ?_)
      refine ExL.nil ?_
      refine Ex.ret ?_
      refine RetQ.mk () rfl (.tmp rfl .nil) (tB (by first | rfl | (exfalso; exact absurd (by assumption : sameV _ _ = false) (by rw [sameV_refl]; simp)))) [] (rfl) rfl (trivial)
    · replace hb4 := of_decide_eq_false hb4
      refine Ex.skip ?_
      refine Ex.regSeq (ExL.pures 1 rfl ?_)
      refine ExL.op rfl (op_ret rfl rfl rfl (c_P6Device s _ _ (by omega) (by assumption)) (Reads.get (Reads.old hs)) rfl rfl (fun x5 hx5 => ?_))
      obtain ⟨hkx5, hvx5, hlx5, htx5⟩ := hx5
      have hDx5 : DrDev x5.2 := ⟨hkx5, hvx5, hlx5, htx5⟩
      have hNx5 := hDx5.len
      have hSx5 := hNx5.2.2.1
      have hux5 := hNx5.2.2.2.1
      refine ExL.know (row_some (i := 0) rfl) (fun hrox5 => ?_)
      have hAx5 : x5.1.1 = none → x5.1.2 = 0 := fun e => by have h9 := hrox5.2.2.2 (by omega); rw [e] at h9; cases h9
      refine ExL.op rfl (op_alloc rfl rfl rfl rfl rfl (fun b6 => ?_))
      refine ExL.op rfl (op_storeC (i := 0) rfl rfl rfl rfl rfl rfl rfl rfl rfl rfl ?_)
      refine ExL.nil ?_
      refine Ex.regSeq (ExL.pures 1 rfl ?_)
      refine ExL.free (fr_loadN rfl rfl rfl rfl rfl (SegO.whole (i := 0) rfl)) rfl rfl rfl ?_
      refine ExL.op rfl (op_ret rfl rfl rfl (c_P6Acts t _ _ (by omega) (by assumption) x5.2 (by assumption) _ _) (fun w hw => ⟨Reads.get (Reads.old ht) w hw, Reads.get (Reads.row (i := 1) rfl) w hw⟩) rfl rfl (fun x7 hx7 => ?_))
      have hLx7 := hx7.1
      refine ExL.pures 1 rfl ?_
      refine ExL.nil ?_
      have hvs : validStack x5.2.stack = true := by assumption
      have hK := tkl hDx5 hx7
      have hc0 := hK.code
      have hKp := hK.p
      have hTo := hKp.ok
      have hT9 := hK.len
      have hL9 := hx7.1
      refine Ex.regSeq (ExL.pures 0 rfl ?_)
      refine ExL.free (fr_loadN rfl rfl rfl rfl rfl (SegO.whole (i := 1) rfl)) rfl rfl rfl ?_
      refine ExL.pures 1 rfl ?_
      refine ExL.op rfl (op_ret rfl rfl rfl (c_iTicketsOf x5.2 (by first | exact hBd | assumption) _ _ (by first | exact hAE | assumption | exact (fun e => nomatch e)) (by omega) x7.2 _ _ (by omega)) (fun w hw => ⟨Reads.get (Reads.row (i := 2) rfl) w hw, Reads.get (Reads.row (i := 0) rfl) w hw⟩) rfl rfl (fun x8 hx8 => ?_))
      refine ExL.pures 5 rfl ?_
      refine ExL.nil ?_
      refine Ex.regSeq (ExL.pures 0 rfl ?_)
      refine ExL.free (fr_loadN rfl rfl rfl rfl rfl (SegO.whole (i := 2) rfl)) rfl rfl rfl ?_
      refine ExL.pures 1 rfl ?_
      refine ExL.op rfl (op_ret rfl rfl rfl (c_sTicketsOf x5.2 (by first | exact hBd | assumption) _ _ (by first | exact hAE | assumption | exact (fun e => nomatch e)) (by omega) x7.2 _ _ (by omega)) (fun w hw => ⟨Reads.get (Reads.row (i := 3) rfl) w hw, Reads.get (Reads.row (i := 1) rfl) w hw⟩) rfl rfl (fun x9 hx9 => ?_))
      refine ExL.pures 5 rfl ?_
      refine ExL.nil ?_
      have hff := ff_ok (by assumption) hKp (by omega)
      refine Ex.regSeq (ExL.pures 1 rfl ?_)
      refine ExL.free (fr_load rfl rfl rfl rfl (CellO.blk (i := 3) rfl rfl)) rfl rfl rfl ?_
      refine ExL.pures 1 rfl ?_
      refine ExL.op rfl (op_ret rfl rfl rfl (c_iFirstForgedA x5.2.stack (by assumption) _ _ (by omega) ((runV x5.2 x7.2).2.2.1) (by assumption) _ _ (by omega)) (fun w hw => ⟨Reads.get (Reads.row (i := 4) rfl) w hw, Reads.get (Reads.row (i := 0) rfl) w hw⟩) rfl rfl (fun x10 hx10 => ?_))
      refine ExL.pures 5 rfl ?_
      refine ExL.nil ?_
      refine Ex.seq ?_
      refine Ex.regSeq (ExL.pures 2 rfl ?_)
      refine ExL.free (fr_neq_f rfl rfl rfl (fun h => h rfl)) rfl rfl rfl ?_
      refine ExL.pures 2 rfl ?_
      refine ExL.free (fr_neq_f rfl rfl rfl (by rw [hc0]; exact fun h => h rfl)) rfl rfl rfl ?_
      refine ExL.pures 4 rfl ?_
      refine ExL.op rfl (op_ret rfl rfl rfl (c_SameTickets ((runV x5.2 x7.2).2.2.1) _ _ (by omega) _ _) (fun w hw => ⟨Reads.get (Reads.row (i := 1) rfl) w hw, Reads.get (Reads.row (i := 0) rfl) w hw⟩) rfl rfl (fun x11 hx11 => ?_))
      refine ExL.pures 4 rfl ?_
      refine ExL.free (fr_neq_f rfl rfl rfl (by rw [hff]; exact fun h => h rfl)) rfl rfl rfl ?_
      refine ExL.pures 1 rfl ?_
      refine ExL.nil ?_
      refine Ex.cond_f rfl ?_
      refine Ex.skip ?_
      refine Ex.seq ?_
      refine Ex.regSeq (ExL.pures 1 rfl ?_)
      refine ExL.nil ?_
      refine Ex.block ?_
      refine Ex.loopK (X := Nat) (fun k => [(13, .int .i64 k)]) (fun k => []) (fun k => k ≤ ((runV x5.2 x7.2).2.2.1).length) (fun k => ((runV x5.2 x7.2).2.2.1).length - k) 0 [(0, _), (5, _), (9, _)] [_, _, _] 5 [0, 3, 4] ⟨rfl, trivial⟩ ⟨rfl, rfl, rfl, trivial⟩ (rfl) rfl (Nat.zero_le _) (fun k hI => ?_)
      have hI : k ≤ ((runV x5.2 x7.2).2.2.1).length := hI
      refine Ex.seq ?_
      refine Ex.regSeq (ExL.pures 3 rfl ?_)
      refine ExL.lss rfl rfl rfl rfl rfl rfl (fun h12 => ?_) (fun h12 => ?_)
      · refine ExL.nil ?_
        refine Ex.cond_t rfl ?_
        refine Ex.skip ?_
        refine Ex.seq ?_
        refine Ex.block ?_
        have hkl : k < ((runV x5.2 x7.2).2.2.1).length := by omega
        have hok1 := hTo _ (getD_mem zT hkl)
        have hg1 := hKp.gen k hkl
        have hnn1 := hKp.num k hkl
        have hck1 := ck_gen hvs hg1
        have hwg := wrong_gen hok1 hg1
        have hwo := hwg.2
        have htx1 := ticTx_le hvs hok1 hg1
        obtain ⟨hok1a, hok1b, hok1c⟩ := id hok1
        have hok1d := hok1b
        refine Ex.regSeq (ExL.pures 2 rfl ?_)
        refine ExL.free (fr_indexAddrR (sz := 10) 0 rfl rfl rfl rfl rfl rfl (by omega)) rfl rfl rfl ?_
        refine ExL.free (fr_loadN rfl rfl rfl rfl rfl (by first | exact segN (Reads.row (i := 0) rfl) encT_len rfl zT (by omega) | exact segF (Reads.row (i := 0) rfl) encT_len rfl zT (by omega))) rfl rfl rfl ?_
        refine ExL.op rfl (op_alloc rfl rfl rfl rfl rfl (fun b13 => ?_))
        refine ExL.op rfl (op_storeC (i := 0) rfl rfl rfl rfl rfl rfl rfl rfl rfl rfl ?_)
        refine ExL.nil ?_
        refine Ex.regSeq (ExL.pures 1 rfl ?_)
        refine ExL.free (fr_load rfl rfl rfl rfl (CellO.blk (i := 2) rfl rfl)) rfl rfl rfl ?_
        refine ExL.free (fr_loadN rfl rfl rfl rfl rfl (SegO.whole (i := 0) rfl)) rfl rfl rfl ?_
        refine ExL.op rfl (op_ret rfl rfl rfl (c_iIsGenuine x5.2.stack (by assumption) _ _ (by omega) (((runV x5.2 x7.2).2.2.1).getD k zT) (by assumption)) (Reads.get (Reads.row (i := 3) rfl)) rfl rfl (fun x14 hx14 => ?_))
        refine ExL.pures 5 rfl ?_
        refine ExL.nil ?_
        rw [show (validStack x5.2.stack && genT x5.2.stack (((runV x5.2 x7.2).2.2.1).getD k zT)) = true from by rw [hvs, hg1]; rfl, show (if validStack x5.2.stack = true then (0 : Int) else 1) = 0 from if_pos hvs]
        refine Ex.drawSeqM rfl ?_
        refine ExD.take (i := 0) rfl (by kernel_rfl) (pureVal_ok rfl) ((List.Sublist.refl _)) rfl rfl rfl ?_
        refine ExD.take (i := 1) rfl (by kernel_rfl) (fr_load rfl rfl rfl rfl (CellO.blk (i := 2) rfl rfl)) ((List.Sublist.refl _)) rfl rfl rfl ?_
        refine ExD.take (i := 2) rfl (by kernel_rfl) (pureVal_ok rfl) ((List.Sublist.refl _)) rfl rfl rfl ?_
        refine ExD.take (i := 3) rfl (by kernel_rfl) (fr_load rfl rfl rfl rfl (CellO.blk (i := 2) rfl rfl)) ((List.Sublist.refl _)) rfl rfl rfl ?_
        refine ExD.take (i := 4) rfl (by kernel_rfl) (fr_loadN rfl rfl rfl rfl rfl (SegO.whole (i := 0) rfl)) ((List.Sublist.refl _)) rfl rfl rfl ?_
        refine ExDF.start 10 rfl (Alc.of rfl rfl rfl rfl rfl) ?_
        refine ExDF.step (i := 5) rfl rfl (by kernel_rfl) (by kernel_rfl) rfl rfl rfl (fun _ => rfl) rfl (List.Sublist.refl _) (Alc.of rfl rfl rfl rfl rfl) (fun K' hK => op_ret rfl rfl rfl (c_iTicketText x5.2.stack (by assumption) _ _ (by omega) (((runV x5.2 x7.2).2.2.1).getD k zT) (by assumption)) (fun w hw => ⟨Reads.get (Reads.row (i := 3) rfl) w hw, TabO.keep htab hw⟩) rfl rfl (fun x17 hx17 => hK x17 hx17)) (fun b15 K' hK => op_ret rfl rfl rfl (c_iTicketText x5.2.stack (by assumption) _ _ (by omega) (((runV x5.2 x7.2).2.2.1).getD k zT) (by assumption)) (fun w hw => ⟨Reads.get (Reads.row (i := 4) rfl) w hw, TabO.keep htab hw⟩) rfl rfl (fun x16 hx16 => hK x16 hx16)) (fun x17 hx17 => ?_)
        refine ExDF.step (i := 6) rfl rfl (by kernel_rfl) (by kernel_rfl) rfl rfl rfl (fun _ => rfl) rfl (List.Sublist.refl _) (Alc.of rfl rfl rfl rfl rfl) (fun K' hK => op_ret rfl rfl rfl (c_iReadTicket x5.2.stack (by assumption) _ _ (by omega) (ticTx x5.2.stack (((runV x5.2 x7.2).2.2.1).getD k zT)) (by omega)) (fun w hw => ⟨Reads.get (Reads.row (i := 3) rfl) w hw, RdO.keep hrd hw, TabO.keep htab hw⟩) rfl rfl (fun x20 hx20 => hK x20 hx20)) (fun b18 K' hK => op_ret rfl rfl rfl (c_iReadTicket x5.2.stack (by assumption) _ _ (by omega) (ticTx x5.2.stack (((runV x5.2 x7.2).2.2.1).getD k zT)) (by omega)) (fun w hw => ⟨Reads.get (Reads.row (i := 4) rfl) w hw, RdO.keep hrd hw, TabO.keep htab hw⟩) rfl rfl (fun x19 hx19 => hK x19 hx19)) (fun x20 hx20 => ?_)
        refine ExDF.take (i := 7) rfl (by kernel_rfl) (by kernel_rfl) rfl (pureVal_ok rfl) (fun _ => pureVal_ok rfl) (List.Sublist.refl _) rfl (fun _ => rfl) rfl rfl rfl ?_
        refine ExDF.take (i := 8) rfl (by kernel_rfl) (by kernel_rfl) rfl (pureVal_ok rfl) (fun _ => pureVal_ok rfl) (List.Sublist.refl _) rfl (fun _ => rfl) rfl rfl rfl ?_
        refine ExDF.take (i := 9) rfl (by kernel_rfl) (by kernel_rfl) rfl (pureVal_ok rfl) (fun _ => pureVal_ok rfl) (List.Sublist.refl _) rfl (fun _ => rfl) rfl rfl rfl ?_
        refine ExDF.fin rfl (by kernel_rfl) rfl (List.Sublist.refl _) (Alc.of rfl rfl rfl rfl rfl) (fun b21 => ?_)
        refine ExD.op (i := 11) rfl (by kernel_rfl) rfl (op_storeC (i := 0) rfl rfl rfl rfl rfl rfl rfl rfl rfl rfl ⟨(List.Sublist.cons _ (List.Sublist.refl _)), ?_⟩)
        refine ExD.take (i := 12) rfl (by kernel_rfl) (pureVal_ok rfl) ((List.Sublist.cons _ (List.Sublist.refl _))) rfl rfl rfl ?_
        refine ExD.done (by kernel_rfl) ?_
        have hbk := rdTic_back hvs hok1 hg1 hx20
        have hb1 := hbk.1
        have hb2 := hbk.2
        refine Ex.regSeq (ExL.pures 1 rfl ?_)
        refine ExL.free (fr_load rfl rfl rfl rfl (CellO.blk (i := 3) rfl rfl)) rfl rfl rfl ?_
        refine ExL.pures 1 rfl ?_
        refine ExL.free (fr_load rfl rfl rfl rfl (CellO.blk (i := 1) rfl rfl)) rfl rfl rfl ?_
        refine ExL.pures 1 rfl ?_
        refine ExL.free (fr_loadN rfl rfl rfl rfl rfl (SegO.part (i := 1) 8 rfl)) rfl rfl rfl ?_
        refine ExL.op rfl (op_ret rfl rfl rfl (c_iCheckOf x5.2.stack (by assumption) _ _ (by omega) _ (((runV x5.2 x7.2).2.2.1).getD k zT).shows (by assumption)) (Reads.get (Reads.row (i := 4) rfl)) rfl rfl (fun x22 hx22 => ?_))
        refine ExL.pures 5 rfl ?_
        refine ExL.nil ?_
        refine Ex.seq ?_
        refine Ex.regSeq (ExL.pures 1 rfl ?_)
        refine ExL.free (fr_neq_f rfl rfl rfl (fun h => h rfl)) rfl rfl rfl ?_
        refine ExL.pures 6 rfl ?_
        refine ExL.free (fr_neq_f rfl rfl rfl (by rw [hb2]; exact fun h => h rfl)) rfl rfl rfl ?_
        refine ExL.pures 2 rfl ?_
        refine ExL.free (fr_loadN rfl rfl rfl rfl rfl (SegO.whole (i := 0) rfl)) rfl rfl rfl ?_
        refine ExL.free (fr_loadN rfl rfl rfl rfl rfl (SegO.whole (i := 1) rfl)) rfl rfl rfl ?_
        refine ExL.free (fr_neq_rec (EqOk.as (eq_Tic x20.1 (((runV x5.2 x7.2).2.2.1).getD k zT)) (by rw [hb1, sameT_refl])) rfl rfl rfl (by kernel_rfl)) rfl rfl rfl ?_
        refine ExL.pures 3 rfl ?_
        refine ExL.free (fr_neq_f rfl rfl rfl (by rw [hck1]; exact fun h => h rfl)) rfl rfl rfl ?_
        refine ExL.pures 4 rfl ?_
        refine ExL.free (fr_load rfl rfl rfl rfl (CellO.blk (i := 1) rfl rfl)) rfl rfl rfl ?_
        refine ExL.free (fr_neq_f rfl rfl rfl (by rw [hck1]; exact fun h => h rfl)) rfl rfl rfl ?_
        refine ExL.pures 3 rfl ?_
        refine ExL.free (fr_load rfl rfl rfl rfl (CellO.blk (i := 1) rfl rfl)) rfl rfl rfl ?_
        refine ExL.pures 1 rfl ?_
        refine ExL.free (fr_load rfl rfl rfl rfl (CellO.blk (i := 3) rfl rfl)) rfl rfl rfl ?_
        refine ExL.pures 1 rfl ?_
        refine ExL.free (by first | exact fr_add64 rfl rfl rfl (by omega) | exact fr_add rfl rfl rfl) rfl rfl rfl ?_
        refine ExL.free (by first | exact fr_add64 rfl rfl rfl (by omega) | exact fr_add rfl rfl rfl) rfl rfl rfl ?_
        refine ExL.free (fr_neq_f rfl rfl rfl (by omega)) rfl rfl rfl ?_
        refine ExL.pures 1 rfl ?_
        refine ExL.nil ?_
        refine Ex.cond_f rfl ?_
        refine Ex.skip ?_
        refine Ex.regSeq (ExL.pures 0 rfl ?_)
        refine ExL.free (fr_loadN rfl rfl rfl rfl rfl (SegO.whole (i := 1) rfl)) rfl rfl rfl ?_
        refine ExL.op rfl (op_alloc rfl rfl rfl rfl rfl (fun b23 => ?_))
        refine ExL.op rfl (op_storeC (i := 0) rfl rfl rfl rfl rfl rfl rfl rfl rfl rfl ?_)
        refine ExL.nil ?_
        refine Ex.regSeq (ExL.pures 1 rfl ?_)
        refine ExL.free (fr_load rfl rfl rfl rfl (CellO.blk (i := 0) rfl rfl)) rfl rfl rfl ?_
        refine ExL.free (by first | exact fr_and255 rfl rfl rfl (by omega) | exact fr_bits rfl rfl rfl (by simp)) rfl rfl rfl ?_
        refine ExL.pures 1 rfl ?_
        refine ExL.op rfl (op_storeC (i := 0) rfl rfl rfl rfl rfl rfl rfl rfl rfl rfl ?_)
        refine ExL.nil ?_
        refine Ex.regSeq (ExL.pures 1 rfl ?_)
        refine ExL.free (fr_load rfl rfl rfl rfl (CellO.blk (i := 4) rfl rfl)) rfl rfl rfl ?_
        refine ExL.free (fr_loadN rfl rfl rfl rfl rfl (SegO.whole (i := 0) rfl)) rfl rfl rfl ?_
        refine ExL.op rfl (op_ret rfl rfl rfl (c_iIsGenuine x5.2.stack (by assumption) _ _ (by omega) (⟨(((runV x5.2 x7.2).2.2.1).getD k zT).number, (((runV x5.2 x7.2).2.2.1).getD k zT).shows, bits .xor .u16 (((runV x5.2 x7.2).2.2.1).getD k zT).check 1⟩ : VTic) (by assumption)) (Reads.get (Reads.row (i := 5) rfl)) rfl rfl (fun x24 hx24 => ?_))
        refine ExL.pures 5 rfl ?_
        refine ExL.nil ?_
        rw [show (validStack x5.2.stack && genT x5.2.stack (⟨(((runV x5.2 x7.2).2.2.1).getD k zT).number, (((runV x5.2 x7.2).2.2.1).getD k zT).shows, bits .xor .u16 (((runV x5.2 x7.2).2.2.1).getD k zT).check 1⟩ : VTic)) = false from by rw [hwg.1, hvs]; rfl, show (if validStack x5.2.stack = true then (0 : Int) else 1) = 0 from if_pos hvs]
        refine Ex.regSeq (ExL.pures 1 rfl ?_)
        refine ExL.free (fr_neq_f rfl rfl rfl (fun h => h rfl)) rfl rfl rfl ?_
        refine ExL.pures 3 rfl ?_
        refine ExL.nil ?_
        refine Ex.cond_f rfl ?_
        refine Ex.skip ?_
        refine Ex.region (ExL.pures 1 rfl ?_)
        refine ExL.free (by first | exact fr_add64 rfl rfl rfl (by omega) | exact fr_add rfl rfl rfl) rfl rfl rfl ?_
        refine ExL.pures 1 rfl ?_
        refine ExL.nil ?_
        refine Hand.mk (k + 1) 6 [3, 4, 5] ⟨rfl, trivial⟩ ⟨rfl, rfl, rfl, trivial⟩ (rfl) rfl (by omega) (by omega)
      · refine ExL.nil ?_
        refine Ex.cond_f rfl ?_
        refine Ex.exit ?_
        refine Ex.regSeq (ExL.pures 1 rfl ?_)
        refine ExL.free (fr_load rfl rfl rfl rfl (CellO.blk (i := 1) rfl rfl)) rfl rfl rfl ?_
        refine ExL.pures 1 rfl ?_
        refine ExL.op rfl (op_ret rfl rfl rfl (c_iMissingA x5.2.stack (by assumption) _ _ (by omega) ((runV x5.2 x7.2).2.2.1) (by assumption) _ _ (by omega)) (fun w hw => ⟨Reads.get (Reads.row (i := 2) rfl) w hw, Reads.get (Reads.row (i := 0) rfl) w hw⟩) rfl rfl (fun x25 hx25 => ?_))
        refine ExL.pures 5 rfl ?_
        refine ExL.nil ?_
        refine Ex.seq ?_
        obtain ⟨hm1, hm2, hm3, hm4⟩ := miss_f hvs hKp (by omega) (by omega)
        have hm5 : ((missV x5.2.stack ((runV x5.2 x7.2).2.2.1)).1).length ≤ 20 := by rcases Nat.eq_zero_or_pos ((runV x5.2 x7.2).2.2.1).length with h | h; (have := hm3 h; omega); (have := hm2 h; omega)
        refine Ex.regSeq (ExL.pures 1 rfl ?_)
        refine ExL.free (fr_neq_f rfl rfl rfl (by rw [hm1]; exact fun h => h rfl)) rfl rfl rfl ?_
        refine ExL.pures 3 rfl ?_
        refine ExL.gtr rfl rfl rfl rfl rfl rfl (fun h26 => ?_) (fun h26 => ?_)
        · refine ExL.pures 4 rfl ?_
          refine ExL.free (fr_load rfl rfl rfl rfl (CellO.blk (i := 2) rfl rfl)) rfl rfl rfl ?_
          refine ExL.free (fr_neq_f rfl rfl rfl (by have := hm2 (by omega); omega)) rfl rfl rfl ?_
          refine ExL.pures 5 rfl ?_
          refine ExL.free (fr_eql_f rfl rfl rfl (by omega)) rfl rfl rfl ?_
          refine ExL.pures 6 rfl ?_
          refine ExL.nil ?_
          refine Ex.cond_f rfl ?_
          refine Ex.skip ?_
          refine Ex.seq ?_
          refine Ex.regSeq (ExL.pures 1 rfl ?_)
          refine ExL.nil ?_
          refine Ex.block ?_
          refine Ex.loopK (X := Nat) (fun k => [(26, .int .i64 k)]) (fun k => []) (fun k => k ≤ ((missV x5.2.stack ((runV x5.2 x7.2).2.2.1)).1).length) (fun k => ((missV x5.2.stack ((runV x5.2 x7.2).2.2.1)).1).length - k) 0 [(0, _), (5, _), (9, _), (24, _)] [_, _, _, _] 4 [0, 1, 2, 3] ⟨rfl, trivial⟩ ⟨rfl, rfl, rfl, rfl, trivial⟩ (rfl) rfl (Nat.zero_le _) (fun k hI => ?_)
          have hI : k ≤ ((missV x5.2.stack ((runV x5.2 x7.2).2.2.1)).1).length := hI
          refine Ex.seq ?_
          refine Ex.regSeq (ExL.pures 3 rfl ?_)
          refine ExL.lss rfl rfl rfl rfl rfl rfl (fun h27 => ?_) (fun h27 => ?_)
          · refine ExL.nil ?_
            refine Ex.cond_t rfl ?_
            refine Ex.skip ?_
            refine Ex.seq ?_
            refine Ex.block ?_
            have hkl : k < ((missV x5.2.stack ((runV x5.2 x7.2).2.2.1)).1).length := by omega
            have hmk := hm4 k hkl
            refine Ex.regSeq (ExL.pures 2 rfl ?_)
            refine ExL.free (fr_indexAddrR (sz := 1) 0 rfl rfl rfl rfl rfl rfl (by omega)) rfl rfl rfl ?_
            refine ExL.free (fr_load rfl rfl rfl rfl (by first | exact cellN (Reads.row (i := 0) rfl) (eI_len .i64) 0 0 rfl (by omega) rfl | exact cellF (Reads.row (i := 0) rfl) (eI_len .i64) 0 0 rfl (by omega) rfl)) rfl rfl rfl ?_
            refine ExL.pures 1 rfl ?_
            refine ExL.free (by first | exact fr_add64 rfl rfl rfl (by omega) | exact fr_add rfl rfl rfl) rfl rfl rfl ?_
            refine ExL.free (fr_neq_f rfl rfl rfl (fun h => h hmk)) rfl rfl rfl ?_
            refine ExL.nil ?_
            refine Ex.cond_f rfl ?_
            refine Ex.skip ?_
            refine Ex.region (ExL.pures 1 rfl ?_)
            refine ExL.free (by first | exact fr_add64 rfl rfl rfl (by omega) | exact fr_add rfl rfl rfl) rfl rfl rfl ?_
            refine ExL.pures 1 rfl ?_
            refine ExL.nil ?_
            refine Hand.mk (k + 1) 4 [0, 1, 2, 3] ⟨rfl, trivial⟩ ⟨rfl, rfl, rfl, rfl, trivial⟩ (rfl) rfl (by omega) (by omega)
          · refine ExL.nil ?_
            refine Ex.cond_f rfl ?_
            refine Ex.exit ?_
            refine Ex.regSeq (ExL.pures 0 rfl ?_)
            refine ExL.free (fr_loadN rfl rfl rfl rfl rfl (SegO.whole (i := 2) rfl)) rfl rfl rfl ?_
            refine ExL.op rfl (op_ret rfl rfl rfl (c_iPrint x5.2 (by assumption) _ _ (by first | assumption | exact (fun e => nomatch e)) (by omega)) (Reads.get (Reads.row (i := 3) rfl)) rfl rfl (fun x28 hx28 => ?_))
            refine ExL.pures 4 rfl ?_
            refine ExL.op rfl (op_alloc rfl rfl rfl rfl rfl (fun b29 => ?_))
            refine ExL.op rfl (op_alloc rfl rfl rfl rfl rfl (fun b30 => ?_))
            refine ExL.op rfl (op_storeC (i := 1) rfl rfl rfl rfl rfl rfl rfl rfl rfl rfl ?_)
            refine ExL.op rfl (op_storeC (i := 0) rfl rfl rfl rfl rfl rfl rfl rfl rfl rfl ?_)
            refine ExL.pures 1 rfl ?_
            refine ExL.nil ?_
            refine Ex.regSeq (ExL.pures 0 rfl ?_)
            refine ExL.free (fr_loadN rfl rfl rfl rfl rfl (SegO.whole (i := 5) rfl)) rfl rfl rfl ?_
            refine ExL.op rfl (op_ret rfl rfl rfl (c_sPrint x5.2 (by assumption) _ _ (by first | assumption | exact (fun e => nomatch e)) (by omega)) (Reads.get (Reads.row (i := 6) rfl)) rfl rfl (fun x31 hx31 => ?_))
            refine ExL.pures 4 rfl ?_
            refine ExL.op rfl (op_alloc rfl rfl rfl rfl rfl (fun b32 => ?_))
            refine ExL.op rfl (op_alloc rfl rfl rfl rfl rfl (fun b33 => ?_))
            refine ExL.op rfl (op_storeC (i := 1) rfl rfl rfl rfl rfl rfl rfl rfl rfl rfl ?_)
            refine ExL.op rfl (op_storeC (i := 0) rfl rfl rfl rfl rfl rfl rfl rfl rfl rfl ?_)
            refine ExL.pures 1 rfl ?_
            refine ExL.nil ?_
            refine Ex.seq ?_
            have hp9 := pr_stack x5.2
            obtain ⟨hp1, hp2⟩ := print_ok hDx5
            have hp3 : (printV x5.2).2.2 = 0 := by rw [hp1]
            have hp4 : (printV x5.2).2.1.number = x5.2.tickets + 1 := by rw [hp1]; exact hp2
            refine Ex.regSeq (ExL.pures 2 rfl ?_)
            refine ExL.free (fr_neq_f rfl rfl rfl (fun h => h rfl)) rfl rfl rfl ?_
            refine ExL.pures 2 rfl ?_
            refine ExL.free (fr_neq_f rfl rfl rfl (by rw [hp3]; exact fun h => h rfl)) rfl rfl rfl ?_
            refine ExL.pures 2 rfl ?_
            refine ExL.free (fr_loadN rfl rfl rfl rfl rfl (SegO.whole (i := 4) rfl)) rfl rfl rfl ?_
            refine ExL.free (fr_loadN rfl rfl rfl rfl rfl (SegO.whole (i := 1) rfl)) rfl rfl rfl ?_
            refine ExL.op rfl (op_ret rfl rfl rfl (c_sSameDevice (printV x5.2).1 (printV x5.2).1 _ _ _ _ (by omega) (by omega)) (fun w hw => ⟨Reads.get (Reads.row (i := 5) rfl) w hw, Reads.get (Reads.row (i := 2) rfl) w hw⟩) rfl rfl (fun x34 hx34 => ?_))
            refine ExL.pures 3 rfl ?_
            refine ExL.bool (d := 242) rfl (fun hb35 => ?_) (fun hb35 => ?_)
            · replace hb35 := nb_t hb35
              refine ExL.pures 12 rfl ?_
              refine ExL.nil ?_
              refine Ex.cond_t rfl ?_
              refine Ex.regSeq (ExL.pures 1 rfl ?_)
              refine ExL.nil ?_
              refine Ex.ret ?_
              refine RetQ.mk () rfl (.tmp rfl .nil) (tB (by first | rfl | (exfalso; exact absurd (by assumption : sameV _ _ = false) (by rw [sameV_refl]; simp)))) [] (rfl) rfl (trivial)
            · replace hb35 := nb_f hb35
              refine ExL.free (fr_loadN rfl rfl rfl rfl rfl (SegO.whole (i := 3) rfl)) rfl rfl rfl ?_
              refine ExL.free (fr_loadN rfl rfl rfl rfl rfl (SegO.whole (i := 0) rfl)) rfl rfl rfl ?_
              refine ExL.free (fr_neq_rec (EqOk.as (eq_Tic (printV x5.2).2.1 (printV x5.2).2.1) (sameT_refl _)) rfl rfl rfl (by kernel_rfl)) rfl rfl rfl ?_
              refine ExL.pures 3 rfl ?_
              refine ExL.free (fr_load rfl rfl rfl rfl (CellO.blk (i := 0) rfl rfl)) rfl rfl rfl ?_
              refine ExL.pures 1 rfl ?_
              refine ExL.free (fr_load rfl rfl rfl rfl (CellO.blk (i := 8) rfl rfl)) rfl rfl rfl ?_
              refine ExL.free (by first | exact fr_add64 rfl rfl rfl (by omega) | exact fr_add rfl rfl rfl) rfl rfl rfl ?_
              refine ExL.free (fr_neq_f rfl rfl rfl (by rw [hp4]; exact fun h => h rfl)) rfl rfl rfl ?_
              refine ExL.pures 1 rfl ?_
              refine ExL.nil ?_
              refine Ex.cond_f rfl ?_
              refine Ex.skip ?_
              refine Ex.seq ?_
              refine Ex.regSeq (ExL.pures 2 rfl ?_)
              refine ExL.lss rfl rfl rfl rfl rfl rfl (fun h36 => ?_) (fun h36 => ?_)
              · refine ExL.nil ?_
                refine Ex.cond_t rfl ?_
                refine Ex.regSeq (ExL.pures 1 rfl ?_)
                refine ExL.nil ?_
                refine Ex.ret ?_
                refine RetQ.mk () rfl (.tmp rfl .nil) (tB (by first | rfl | (exfalso; exact absurd (by assumption : sameV _ _ = false) (by rw [sameV_refl]; simp)))) [] (rfl) rfl (trivial)
              · refine ExL.nil ?_
                refine Ex.cond_f rfl ?_
                refine Ex.skip ?_
                refine Ex.regSeq (ExL.pures 3 rfl ?_)
                refine ExL.free (by first | exact fr_sub64 rfl rfl rfl (by omega) | exact fr_sub rfl rfl rfl) rfl rfl rfl ?_
                refine ExL.op rfl (op_ret rfl rfl rfl (c_P6Pick s _ _ (by omega) (by assumption) (((runV x5.2 x7.2).2.2.1).length - 1) (by omega)) (Reads.get (Reads.old hs)) rfl rfl (fun x37 hx37 => ?_))
                obtain ⟨kx37, hkx37⟩ : ∃ k : Nat, x37 = (k : Int) := ⟨x37.toNat, by omega⟩
                subst hkx37
                refine ExL.free (by first | exact fr_add64 rfl rfl rfl (by omega) | exact fr_add rfl rfl rfl) rfl rfl rfl ?_
                refine ExL.pures 1 rfl ?_
                refine ExL.nil ?_
                obtain ⟨K, hK9⟩ : ∃ K : Nat, kx37 + 1 = K := ⟨_, rfl⟩
                have hK8 : (1 + ((kx37 : Nat) : Int)) = (K : Int) := by omega
                rw [hK8]
                have hN0 : 0 < ((runV x5.2 x7.2).2.2.1).length := by omega
                refine Ex.know (row_some (i := 7) rfl) (fun hro9 => ?_)
                have hKl : K < ((runV x5.2 x7.2).2.2.1).length := by omega
                have hK0 : 0 < K := by omega
                refine Ex.regSeq (ExL.pures 0 rfl ?_)
                refine ExL.op rfl (op_buildSlice (sz := 10) rfl rfl rfl rfl rfl rfl rfl rfl (by decide) rfl rfl rfl (fun r38 => ?_))
                refine ExL.pures 1 rfl ?_
                refine ExL.op rfl (op_append0 (sz := 10) (bytes := 24) (i := 0) rfl rfl rfl rfl (Reads.row (i := 8) rfl) (flat_len encT_len _) (fun e => absurd (hro9.2.2.2 hN0) (by rw [e]; simp)) (all_flat (fun _ => rfl) _) rfl rfl rfl (by constructor <;> first | omega | (unfold maxLen; omega)) rfl rfl (fun A39 cA39 => ?_))
                refine ExL.pures 1 rfl ?_
                refine ExL.nil ?_
                refine Ex.regSeq (ExL.pures 4 rfl ?_)
                refine ExL.free (by first | exact fr_sub64 rfl rfl rfl (by omega) | exact fr_sub rfl rfl rfl) rfl rfl rfl ?_
                refine ExL.free (fr_indexAddrR (sz := 10) 0 rfl rfl rfl rfl rfl rfl (by omega)) rfl rfl rfl ?_
                refine ExL.free (fr_loadN rfl rfl rfl rfl rfl (segJ ((K - 1)) (Reads.row (i := 0) rfl) encT_len rfl zT (by omega) (by omega))) rfl rfl rfl ?_
                refine ExL.free (fr_indexAddrR (sz := 10) 0 rfl rfl rfl rfl rfl rfl (by omega)) rfl rfl rfl ?_
                refine ExL.op rfl (op_storeRowF (i := 0) rfl rfl rfl rfl rfl rfl rfl rfl (room encT_len (k := K) (by omega) (by first | rfl | omega) rfl) (List.cons_ne_nil _ _) rfl (set_put encT_len _ K _ (by omega) (by first | rfl | omega) rfl) ?_)
                refine ExL.nil ?_
                have hsl : (((runV x5.2 x7.2).2.2.1).set K (((runV x5.2 x7.2).2.2.1).getD (K - 1) zT)).length = ((runV x5.2 x7.2).2.2.1).length := List.length_set ..
                rw [← hsl]
                have hf2 := ff_twice hvs hKp (by omega) hKl hK0
                have hso := set_ok hKp hKl
                refine Ex.regSeq (ExL.pures 1 rfl ?_)
                refine ExL.free (fr_load rfl rfl rfl rfl (CellO.blk (i := 9) rfl rfl)) rfl rfl rfl ?_
                refine ExL.pures 1 rfl ?_
                refine ExL.op rfl (op_ret rfl rfl rfl (c_iFirstForgedA x5.2.stack (by assumption) _ _ (by omega) (((runV x5.2 x7.2).2.2.1).set K (((runV x5.2 x7.2).2.2.1).getD (K - 1) zT)) (by assumption) _ _ (by omega)) (fun w hw => ⟨Reads.get (Reads.row (i := 10) rfl) w hw, Reads.get (Reads.row (i := 0) rfl) w hw⟩) rfl rfl (fun x41 hx41 => ?_))
                refine ExL.pures 5 rfl ?_
                refine ExL.nil ?_
                refine Ex.regSeq (ExL.pures 1 rfl ?_)
                refine ExL.free (fr_eql_t rfl rfl rfl (by rw [hf2])) rfl rfl rfl ?_
                refine ExL.pures 3 rfl ?_
                refine ExL.free (fr_eql_t rfl rfl rfl (by rw [hf2])) rfl rfl rfl ?_
                refine ExL.pures 2 rfl ?_
                refine ExL.nil ?_
                refine Ex.ret ?_
                refine RetQ.mk () rfl (.tmp rfl .nil) (tB (by first | rfl | (exfalso; exact absurd (by assumption : sameV _ _ = false) (by rw [sameV_refl]; simp)))) [] (rfl) rfl (trivial)
        · refine ExL.pures 11 rfl ?_
          refine ExL.free (fr_eql_t rfl rfl rfl (by omega)) rfl rfl rfl ?_
          refine ExL.pures 3 rfl ?_
          refine ExL.free (fr_neq_f rfl rfl rfl (by have := hm3 (by omega); omega)) rfl rfl rfl ?_
          refine ExL.pures 2 rfl ?_
          refine ExL.nil ?_
          refine Ex.cond_f rfl ?_
          refine Ex.skip ?_
          refine Ex.seq ?_
          refine Ex.regSeq (ExL.pures 1 rfl ?_)
          refine ExL.nil ?_
          refine Ex.block ?_
          refine Ex.loopK (X := Nat) (fun k => [(26, .int .i64 k)]) (fun k => []) (fun k => k ≤ ((missV x5.2.stack ((runV x5.2 x7.2).2.2.1)).1).length) (fun k => ((missV x5.2.stack ((runV x5.2 x7.2).2.2.1)).1).length - k) 0 [(0, _), (5, _), (9, _), (24, _)] [_, _, _, _] 4 [0, 1, 2, 3] ⟨rfl, trivial⟩ ⟨rfl, rfl, rfl, rfl, trivial⟩ (rfl) rfl (Nat.zero_le _) (fun k hI => ?_)
          have hI : k ≤ ((missV x5.2.stack ((runV x5.2 x7.2).2.2.1)).1).length := hI
          refine Ex.seq ?_
          refine Ex.regSeq (ExL.pures 3 rfl ?_)
          refine ExL.lss rfl rfl rfl rfl rfl rfl (fun h42 => ?_) (fun h42 => ?_)
          · refine ExL.nil ?_
            refine Ex.cond_t rfl ?_
            refine Ex.skip ?_
            refine Ex.seq ?_
            refine Ex.block ?_
            have hkl : k < ((missV x5.2.stack ((runV x5.2 x7.2).2.2.1)).1).length := by omega
            have hmk := hm4 k hkl
            refine Ex.regSeq (ExL.pures 2 rfl ?_)
            refine ExL.free (fr_indexAddrR (sz := 1) 0 rfl rfl rfl rfl rfl rfl (by omega)) rfl rfl rfl ?_
            refine ExL.free (fr_load rfl rfl rfl rfl (by first | exact cellN (Reads.row (i := 0) rfl) (eI_len .i64) 0 0 rfl (by omega) rfl | exact cellF (Reads.row (i := 0) rfl) (eI_len .i64) 0 0 rfl (by omega) rfl)) rfl rfl rfl ?_
            refine ExL.pures 1 rfl ?_
            refine ExL.free (by first | exact fr_add64 rfl rfl rfl (by omega) | exact fr_add rfl rfl rfl) rfl rfl rfl ?_
            refine ExL.free (fr_neq_f rfl rfl rfl (fun h => h hmk)) rfl rfl rfl ?_
            refine ExL.nil ?_
            refine Ex.cond_f rfl ?_
            refine Ex.skip ?_
            refine Ex.region (ExL.pures 1 rfl ?_)
            refine ExL.free (by first | exact fr_add64 rfl rfl rfl (by omega) | exact fr_add rfl rfl rfl) rfl rfl rfl ?_
            refine ExL.pures 1 rfl ?_
            refine ExL.nil ?_
            refine Hand.mk (k + 1) 4 [0, 1, 2, 3] ⟨rfl, trivial⟩ ⟨rfl, rfl, rfl, rfl, trivial⟩ (rfl) rfl (by omega) (by omega)
          · refine ExL.nil ?_
            refine Ex.cond_f rfl ?_
            refine Ex.exit ?_
            refine Ex.regSeq (ExL.pures 0 rfl ?_)
            refine ExL.free (fr_loadN rfl rfl rfl rfl rfl (SegO.whole (i := 2) rfl)) rfl rfl rfl ?_
            refine ExL.op rfl (op_ret rfl rfl rfl (c_iPrint x5.2 (by assumption) _ _ (by first | assumption | exact (fun e => nomatch e)) (by omega)) (Reads.get (Reads.row (i := 3) rfl)) rfl rfl (fun x43 hx43 => ?_))
            refine ExL.pures 4 rfl ?_
            refine ExL.op rfl (op_alloc rfl rfl rfl rfl rfl (fun b44 => ?_))
            refine ExL.op rfl (op_alloc rfl rfl rfl rfl rfl (fun b45 => ?_))
            refine ExL.op rfl (op_storeC (i := 1) rfl rfl rfl rfl rfl rfl rfl rfl rfl rfl ?_)
            refine ExL.op rfl (op_storeC (i := 0) rfl rfl rfl rfl rfl rfl rfl rfl rfl rfl ?_)
            refine ExL.pures 1 rfl ?_
            refine ExL.nil ?_
            refine Ex.regSeq (ExL.pures 0 rfl ?_)
            refine ExL.free (fr_loadN rfl rfl rfl rfl rfl (SegO.whole (i := 5) rfl)) rfl rfl rfl ?_
            refine ExL.op rfl (op_ret rfl rfl rfl (c_sPrint x5.2 (by assumption) _ _ (by first | assumption | exact (fun e => nomatch e)) (by omega)) (Reads.get (Reads.row (i := 6) rfl)) rfl rfl (fun x46 hx46 => ?_))
            refine ExL.pures 4 rfl ?_
            refine ExL.op rfl (op_alloc rfl rfl rfl rfl rfl (fun b47 => ?_))
            refine ExL.op rfl (op_alloc rfl rfl rfl rfl rfl (fun b48 => ?_))
            refine ExL.op rfl (op_storeC (i := 1) rfl rfl rfl rfl rfl rfl rfl rfl rfl rfl ?_)
            refine ExL.op rfl (op_storeC (i := 0) rfl rfl rfl rfl rfl rfl rfl rfl rfl rfl ?_)
            refine ExL.pures 1 rfl ?_
            refine ExL.nil ?_
            refine Ex.seq ?_
            have hp9 := pr_stack x5.2
            obtain ⟨hp1, hp2⟩ := print_ok hDx5
            have hp3 : (printV x5.2).2.2 = 0 := by rw [hp1]
            have hp4 : (printV x5.2).2.1.number = x5.2.tickets + 1 := by rw [hp1]; exact hp2
            refine Ex.regSeq (ExL.pures 2 rfl ?_)
            refine ExL.free (fr_neq_f rfl rfl rfl (fun h => h rfl)) rfl rfl rfl ?_
            refine ExL.pures 2 rfl ?_
            refine ExL.free (fr_neq_f rfl rfl rfl (by rw [hp3]; exact fun h => h rfl)) rfl rfl rfl ?_
            refine ExL.pures 2 rfl ?_
            refine ExL.free (fr_loadN rfl rfl rfl rfl rfl (SegO.whole (i := 4) rfl)) rfl rfl rfl ?_
            refine ExL.free (fr_loadN rfl rfl rfl rfl rfl (SegO.whole (i := 1) rfl)) rfl rfl rfl ?_
            refine ExL.op rfl (op_ret rfl rfl rfl (c_sSameDevice (printV x5.2).1 (printV x5.2).1 _ _ _ _ (by omega) (by omega)) (fun w hw => ⟨Reads.get (Reads.row (i := 5) rfl) w hw, Reads.get (Reads.row (i := 2) rfl) w hw⟩) rfl rfl (fun x49 hx49 => ?_))
            refine ExL.pures 3 rfl ?_
            refine ExL.bool (d := 242) rfl (fun hb50 => ?_) (fun hb50 => ?_)
            · replace hb50 := nb_t hb50
              refine ExL.pures 12 rfl ?_
              refine ExL.nil ?_
              refine Ex.cond_t rfl ?_
              refine Ex.regSeq (ExL.pures 1 rfl ?_)
              refine ExL.nil ?_
              refine Ex.ret ?_
              refine RetQ.mk () rfl (.tmp rfl .nil) (tB (by first | rfl | (exfalso; exact absurd (by assumption : sameV _ _ = false) (by rw [sameV_refl]; simp)))) [] (rfl) rfl (trivial)
            · replace hb50 := nb_f hb50
              refine ExL.free (fr_loadN rfl rfl rfl rfl rfl (SegO.whole (i := 3) rfl)) rfl rfl rfl ?_
              refine ExL.free (fr_loadN rfl rfl rfl rfl rfl (SegO.whole (i := 0) rfl)) rfl rfl rfl ?_
              refine ExL.free (fr_neq_rec (EqOk.as (eq_Tic (printV x5.2).2.1 (printV x5.2).2.1) (sameT_refl _)) rfl rfl rfl (by kernel_rfl)) rfl rfl rfl ?_
              refine ExL.pures 3 rfl ?_
              refine ExL.free (fr_load rfl rfl rfl rfl (CellO.blk (i := 0) rfl rfl)) rfl rfl rfl ?_
              refine ExL.pures 1 rfl ?_
              refine ExL.free (fr_load rfl rfl rfl rfl (CellO.blk (i := 8) rfl rfl)) rfl rfl rfl ?_
              refine ExL.free (by first | exact fr_add64 rfl rfl rfl (by omega) | exact fr_add rfl rfl rfl) rfl rfl rfl ?_
              refine ExL.free (fr_neq_f rfl rfl rfl (by rw [hp4]; exact fun h => h rfl)) rfl rfl rfl ?_
              refine ExL.pures 1 rfl ?_
              refine ExL.nil ?_
              refine Ex.cond_f rfl ?_
              refine Ex.skip ?_
              refine Ex.seq ?_
              refine Ex.regSeq (ExL.pures 2 rfl ?_)
              refine ExL.lss rfl rfl rfl rfl rfl rfl (fun h51 => ?_) (fun h51 => ?_)
              · refine ExL.nil ?_
                refine Ex.cond_t rfl ?_
                refine Ex.regSeq (ExL.pures 1 rfl ?_)
                refine ExL.nil ?_
                refine Ex.ret ?_
                refine RetQ.mk () rfl (.tmp rfl .nil) (tB (by first | rfl | (exfalso; exact absurd (by assumption : sameV _ _ = false) (by rw [sameV_refl]; simp)))) [] (rfl) rfl (trivial)
              · refine ExL.nil ?_
                refine Ex.cond_f rfl ?_
                refine Ex.skip ?_
                refine Ex.regSeq (ExL.pures 3 rfl ?_)
                refine ExL.free (by first | exact fr_sub64 rfl rfl rfl (by omega) | exact fr_sub rfl rfl rfl) rfl rfl rfl ?_
                refine ExL.op rfl (op_ret rfl rfl rfl (c_P6Pick s _ _ (by omega) (by assumption) (((runV x5.2 x7.2).2.2.1).length - 1) (by omega)) (Reads.get (Reads.old hs)) rfl rfl (fun x52 hx52 => ?_))
                obtain ⟨kx52, hkx52⟩ : ∃ k : Nat, x52 = (k : Int) := ⟨x52.toNat, by omega⟩
                subst hkx52
                refine ExL.free (by first | exact fr_add64 rfl rfl rfl (by omega) | exact fr_add rfl rfl rfl) rfl rfl rfl ?_
                refine ExL.pures 1 rfl ?_
                refine ExL.nil ?_
                obtain ⟨K, hK9⟩ : ∃ K : Nat, kx52 + 1 = K := ⟨_, rfl⟩
                have hK8 : (1 + ((kx52 : Nat) : Int)) = (K : Int) := by omega
                rw [hK8]
                have hN0 : 0 < ((runV x5.2 x7.2).2.2.1).length := by omega
                refine Ex.know (row_some (i := 7) rfl) (fun hro9 => ?_)
                have hKl : K < ((runV x5.2 x7.2).2.2.1).length := by omega
                have hK0 : 0 < K := by omega
                refine Ex.regSeq (ExL.pures 0 rfl ?_)
                refine ExL.op rfl (op_buildSlice (sz := 10) rfl rfl rfl rfl rfl rfl rfl rfl (by decide) rfl rfl rfl (fun r53 => ?_))
                refine ExL.pures 1 rfl ?_
                refine ExL.op rfl (op_append0 (sz := 10) (bytes := 24) (i := 0) rfl rfl rfl rfl (Reads.row (i := 8) rfl) (flat_len encT_len _) (fun e => absurd (hro9.2.2.2 hN0) (by rw [e]; simp)) (all_flat (fun _ => rfl) _) rfl rfl rfl (by constructor <;> first | omega | (unfold maxLen; omega)) rfl rfl (fun A54 cA54 => ?_))
                refine ExL.pures 1 rfl ?_
                refine ExL.nil ?_
                refine Ex.regSeq (ExL.pures 4 rfl ?_)
                refine ExL.free (by first | exact fr_sub64 rfl rfl rfl (by omega) | exact fr_sub rfl rfl rfl) rfl rfl rfl ?_
                refine ExL.free (fr_indexAddrR (sz := 10) 0 rfl rfl rfl rfl rfl rfl (by omega)) rfl rfl rfl ?_
                refine ExL.free (fr_loadN rfl rfl rfl rfl rfl (segJ ((K - 1)) (Reads.row (i := 0) rfl) encT_len rfl zT (by omega) (by omega))) rfl rfl rfl ?_
                refine ExL.free (fr_indexAddrR (sz := 10) 0 rfl rfl rfl rfl rfl rfl (by omega)) rfl rfl rfl ?_
                refine ExL.op rfl (op_storeRowF (i := 0) rfl rfl rfl rfl rfl rfl rfl rfl (room encT_len (k := K) (by omega) (by first | rfl | omega) rfl) (List.cons_ne_nil _ _) rfl (set_put encT_len _ K _ (by omega) (by first | rfl | omega) rfl) ?_)
                refine ExL.nil ?_
                have hsl : (((runV x5.2 x7.2).2.2.1).set K (((runV x5.2 x7.2).2.2.1).getD (K - 1) zT)).length = ((runV x5.2 x7.2).2.2.1).length := List.length_set ..
                rw [← hsl]
                have hf2 := ff_twice hvs hKp (by omega) hKl hK0
                have hso := set_ok hKp hKl
                refine Ex.regSeq (ExL.pures 1 rfl ?_)
                refine ExL.free (fr_load rfl rfl rfl rfl (CellO.blk (i := 9) rfl rfl)) rfl rfl rfl ?_
                refine ExL.pures 1 rfl ?_
                refine ExL.op rfl (op_ret rfl rfl rfl (c_iFirstForgedA x5.2.stack (by assumption) _ _ (by omega) (((runV x5.2 x7.2).2.2.1).set K (((runV x5.2 x7.2).2.2.1).getD (K - 1) zT)) (by assumption) _ _ (by omega)) (fun w hw => ⟨Reads.get (Reads.row (i := 10) rfl) w hw, Reads.get (Reads.row (i := 0) rfl) w hw⟩) rfl rfl (fun x56 hx56 => ?_))
                refine ExL.pures 5 rfl ?_
                refine ExL.nil ?_
                refine Ex.regSeq (ExL.pures 1 rfl ?_)
                refine ExL.free (fr_eql_t rfl rfl rfl (by rw [hf2])) rfl rfl rfl ?_
                refine ExL.pures 3 rfl ?_
                refine ExL.free (fr_eql_t rfl rfl rfl (by rw [hf2])) rfl rfl rfl ?_
                refine ExL.pures 2 rfl ?_
                refine ExL.nil ?_
                refine Ex.ret ?_
                refine RetQ.mk () rfl (.tmp rfl .nil) (tB (by first | rfl | (exfalso; exact absurd (by assumption : sameV _ _ = false) (by rw [sameV_refl]; simp)))) [] (rfl) rfl (trivial)
end Go.Proofs.YtiibhahhjkaodaaGreatDoor
