/- Several texts, one behind the other. -/
import Derived.Test.YtddflaaccmjoeaaGreatDoorProg
import Derived.Test.YtddflaaccmjoeaaGreatDoorXaa
import Derived.Test.YtddflaaccmjoeaaGreatDoorXab
import Derived.Test.YtddflaaccmjoeaaGreatDoorXba
import Derived.Test.YtddflaaccmjoeaaGreatDoorXbb
import Derived.Test.YtddflaaccmjoeaaGreatDoorXbc
/- A range over a function whose rounds turn what is held in a way that is told by what is known of it. -/
set_option linter.unusedVariables false
set_option linter.unusedSimpArgs false
namespace Go.Sx
open Go Go.RowKit
variable {C : Cx} {env env' : Env} {m m' : List Ent} {Q Q' : Post} {l rest : List Oper} {o : Oper} {K : Env → List Ent → Prop}
def TabB (P : Program) (base : Nat) (w : World) : Prop := TabO P w ∧ ∀ g, P.globalNamed "internal/strconv.uint64pow10" = some g → g < base
theorem TabO.base {P w} (h : TabO P w) : TabB P w.heap.size w := ⟨h, fun g hg => by
  unfold TabO Lib.TabIs World.var? at h
  simp only [hg, Option.bind_some] at h
  rcases Nat.lt_or_ge g w.heap.size with h1 | h1
  · exact h1
  · rw [Array.getElem?_eq_none h1] at h; simp at h⟩
theorem TabB.keep {P base w w'} (h : TabB P base w) (hb : Below base w w') : TabB P base w' := ⟨by
  have h2 := h.2
  have h := h.1
  unfold TabO Lib.TabIs World.var? at h ⊢
  cases hg : P.globalNamed "internal/strconv.uint64pow10" with
  | none => simp [hg] at h
  | some g =>
    simp only [hg, Option.bind_some] at h ⊢
    rw [hb.block g (h2 g hg)]
    exact h, h.2⟩
theorem TabB.get {P base w0 m w} (h : TabB P base w0) (hh : Holds base w0 m w) : TabO P w := (h.keep hh.below).1
theorem ExL.yieldX {S : List Ent → Prop} {d lp : Nat} {fo args at_ vs} (ho : o.op = .call { callee := .value fo, args := args, argTypes := at_ }) (hfo : ev env fo = some (.func (.yield lp) #[] #[])) (hargs : evs env args.toList = some vs) (hg : wantB l env o = some true) (hd : o.dst = some d) (hlt : Nat.blt d C.n = true)
    (hy : ∀ w, Holds C.base C.w0 m w → YieldAt (fc none) 0 C.P lp vs.toArray w (fun e w' => e = .returned (.bool true) ∧ ∃ m', S m' ∧ Holds C.base C.w0 m' w'))
    (h : ∀ m', S m' → ExL C l rest ((d, .bool true) :: env) m' K) : ExL C l (o :: rest) env m K := by
  unfold ExL at h ⊢
  intro a w hr hh
  have hw := wantB_ok hr hg
  unfold wl
  rw [if_pos hw]
  refine .inr ?_
  obtain ⟨f, tm, asg, bd, hyr, hR⟩ := hy w hh
  have e1 : args.map a.eval = vs.toArray := by rw [← hr.evs hargs]; simp [← Array.toList_inj]
  refine ⟨lp, f, tm, asg, bd, w, ?_, ?_⟩
  · simp [execOp, ho, resolve, hr.ev hfo, Deferred.ofValue, invoke, e1, hyr]
  · refine RoundIn.mono (F := fc C.rd) hR ?_
    rintro e w' ⟨rfl, m', hS, hh'⟩
    exact h m' hS _ _ (hr.put1 hd hlt) hh'
theorem pk3R {a b : Ent} {v : Value} {E sz n : Nat} {cs cs' : List Value} {r : List Ent} (h : cs = cs') : some (a :: b :: Ent.row v E sz n cs :: r) = some (a :: b :: .row v E sz n cs' :: r) := by rw [h]
def YieldsX (P : Program) (l base : Nat) (w0 : World) (box : Ent) (Sf : Nat → List Ent → Prop) (N : Nat) (encs : Nat → List Value) : Prop :=
  ∀ k W mk, k < N → Sf k mk → Holds base w0 (box :: mk) W → YieldAt (fc none) 0 P l (encs k).toArray W (fun e W' => e = .returned (.bool true) ∧ ∃ m', (∃ mk', Sf (k + 1) mk' ∧ m' = box :: mk') ∧ Holds base w0 m' W')
def IterX (P : Program) (gf : FuncId) (lb : List Value) (base : Nat) (w0 : World) (box : Ent) (N : Nat) (encs : Nat → List Value) : Prop :=
  Enters P gf ∧ ∀ (w1 : World) (l : Nat) (Sf : Nat → List Ent → Prop) (m0 : List Ent) (W : World), Below base w0 w1 → YieldsX P l base w1 box Sf N encs → Sf 0 m0 → Holds base w1 (box :: m0) W →
    Calls P gf (.func (.yield l) #[] #[] :: lb).toArray W fun e W' => (∃ v, e = .returned v) ∧ ∃ mN, Sf N mN ∧ Holds base w1 (box :: mN) W'
theorem Ex.rangeFX {g : Operand} {ps : List Nat} {asg bd B : Code} {id gf N : Nat} {lb : List Value} {encs : Nat → List Value} {box : Ent} {Sf : Nat → List Ent → Prop} {m0 : List Ent} (t : Nat) (is : List Nat) (E1 : Nat → Env) (hrd : C.rd = none) (hds : C.ds = [])
    (hg : ev env g = some (.func (.func gf) #[] (List.toArray lb))) (hit : IterX C.P gf lb C.base C.w0 box N encs) (hps : ∀ k, (encs k).length = ps.length) (hpn : ps.all (fun p => Nat.blt p C.n) = true) (hM : pickT m t is = some (box :: m0)) (hf : freshT t is = true) (h0 : Sf 0 m0)
    (hasg : ∀ l k W mk, k < N → Sf k mk → Below C.base C.w0 W → Ex ⟨C.P, C.n, C.base, W, some l, []⟩ asg (zipR ps (encs k) env) (box :: mk) (fun e env' m' => e = .normal ∧ Agree (E1 k) env' ∧ m' = box :: mk))
    (hbd : ∀ l k W mk, k < N → Sf k mk → Below C.base C.w0 W → Ex ⟨C.P, C.n, C.base, W, some l, []⟩ bd (E1 k) (box :: mk) (fun e env' m' => e = .normal ∧ ∃ t is mk', Sf (k + 1) mk' ∧ pickT m' t is = some (box :: mk') ∧ freshT t is = true))
    (hB : ∀ D W mk, Sf N mk → Below C.base C.w0 W → Ex ⟨C.P, C.n, C.base, W, none, [mark D]⟩ B env (box :: mk) (fun e env' m' => e = .ret ∧ Q e env' m')) :
    ExT C (.block id (.rangeFunc g ps.toArray asg bd)) B env m Q := by
  obtain ⟨P, n, base, w0, rd, ds⟩ := C
  simp only at hrd hds hit hasg hbd hB hpn
  subst hrd hds
  unfold Ex at hasg hbd hB
  intro a w hr hh
  simp only at hr hh
  refine wpIn_block (wpIn_rangeFunc ?_)
  intro fn _
  obtain ⟨rec, hrec⟩ : ∃ rec : LoopState → Option Code → Loop, rec = fun st pe => { state := st, pending := pe, fn, tmps := a.tmps, params := ps.toArray, assign := asg, body := bd, defers := w.heap.size } := ⟨_, rfl⟩
  obtain ⟨W1, hW1⟩ : ∃ W1, (w.alloc (.deferred (some []))).alloc (.loop (rec .ready none)) = W1 := ⟨_, rfl⟩
  have hL1 : W1.heap[w.heap.size + 1]? = some (.loop (rec .ready none)) := by
    rw [← hW1]; have := World.alloc_heap_new (w.alloc (.deferred (some []))) (.loop (rec .ready none)); rwa [World.size_alloc] at this
  have hK1 : W1.heap[w.heap.size]? = some (.deferred (some [])) := by
    rw [← hW1]; exact (Below.heap_alloc _ _ _ (by simp)).trans (World.alloc_heap_new w _)
  have hg1 : w.grownBy W1 none := by rw [← hW1]; exact grown_of_below (((below_alloc' w _).trans ((below_alloc' _ _).mono (by simp)))) none
  have hb1 : Below base w W1 := by rw [← hW1]; exact (((below_alloc' w _).trans ((below_alloc' _ _).mono (by simp)))).mono hh.wle
  have hB1 : Below base w0 W1 := hh.below.trans hb1
  have hH1 : Holds base W1 (box :: m0) W1 := (hh.pickT hM hf).fresh hg1
  have ho1 : KeepsOthers w W1 := KeepsOthers.of_grownBy hg1 (fun _ _ e => nomatch e)
  have hsz : w.heap.size + 1 < W1.heap.size := (Array.getElem?_eq_some_iff.1 hL1).1
  have hwle := hh.wle
  refine ⟨w.heap.size + 1, [mark w.heap.size], W1, { target := .fn (.func gf) lb.toArray, args := #[.func (.yield (w.heap.size + 1)) #[] #[]] }, W1, gf,
    #[.func (.yield (w.heap.size + 1)) #[] #[]] ++ lb.toArray, W1, ?_, ?_, fun _ _ => trivial, ?_, noDepth, ?_⟩
  · rw [← hW1, hrec]; exact run_enterLoop_outer _ _ _ _ _
  · simp only [resolve, hr.ev hg]
    simp [go_sem]
  · simp [invoke, go_sem, hit.1 _]
  · refine callsFc _ _ ?_
    have hcall := hit.2 W1 (w.heap.size + 1) Sf m0 W1 hB1 ?_ h0 hH1
    · rw [show #[Value.func (.yield (w.heap.size + 1)) #[] #[]] ++ lb.toArray = (Value.func (.yield (w.heap.size + 1)) #[] #[] :: lb).toArray by simp]
      refine hcall.mono ?_
      rintro e W2 ⟨⟨v, rfl⟩, mN, hSN, hH2⟩
      have hl2 : W2.heap[w.heap.size + 1]? = some (.loop (rec .ready none)) := hH2.others.same _ _ hL1 rfl
      have hk2 : W2.heap[w.heap.size]? = some (.deferred (some [])) := hH2.others.same _ _ hK1 rfl
      have hend := run_endLoop (P := P) hl2 (by rw [hrec]; simp)
      have hp0 : (rec .ready none).pending = none := by rw [hrec]
      refine ⟨none, _, hend.trans (congrArg (fun p => Result.ok p _) hp0), ?_⟩
      have hk3 : (W2.putObj (w.heap.size + 1) (.loop { rec .ready none with state := .exhausted })).heap[w.heap.size]? = some (.deferred (some [])) := (World.putObj_heap_other (by omega)).trans hk2
      have hb3 : Below base W2 (W2.putObj (w.heap.size + 1) (.loop { rec .ready none with state := .exhausted })) := below_put _ hH2.wle (by omega)
      have hr3 : Rep n [mark w.heap.size] env { a with defers := [mark w.heap.size] ++ a.defers } := ⟨by rw [hr.def0]; rfl, hr.size, hr.at_⟩
      have h3 := hB w.heap.size _ mN hSN (hB1.trans (hH2.below.trans hb3)) _ _ hr3 (hH2.freshPut hl2 rfl)
      refine wpIn_mono h3 ?_
      rintro e a4 W4 ⟨ho, env4, m4, ds4, hr4, hh4, ⟨rfl, hq⟩, hd4⟩
      have hd5 : ds4 = [mark w.heap.size] := by
        rcases hd4 with h | ⟨_, h, _⟩
        · exact h
        · cases h
      refine ⟨rfl, env4, m4, ds4, hr4, ⟨(hB1.trans (hH2.below.trans hb3)).trans hh4.below, hh.le, hh4.all, hh4.apart, ?_⟩, hq, .inr ⟨rfl, rfl, _, hd5, hh.below.size, hh4.others.same _ _ hk3 rfl⟩⟩
      refine KeepsOthers.trans ⟨?_, fun k o hk ho => ?_⟩ hh4.others
      · have h1 := hh.below.size; have h2 := hH2.below.size; simp; omega
      · have hk0 : k < w0.heap.size := (Array.getElem?_eq_some_iff.1 hk).1
        have h1 := hh.below.size
        exact (World.putObj_heap_other (by omega)).trans (hH2.others.same _ _ (ho1.same _ _ (hh.others.same _ _ hk ho) ho) ho)
    · intro k W mk hk hS hH
      have hl : W.heap[w.heap.size + 1]? = some (.loop (rec .ready none)) := hH.others.same _ _ hL1 rfl
      have hy := run_yield (P := P) (args := (encs k).toArray) hl (by rw [hrec]; simp [hps k])
      rw [hrec] at hy
      refine ⟨fn, _, asg, bd, hy, roundIn_of_wpIn trivial ?_⟩
      have hBW := hB1.trans hH.below
      have hrz : Rep n [] (zipR ps (encs k) env) { tmps := (ps.toArray.zip (encs k).toArray).foldl (fun tmps (t, a) => tmps.setIfInBounds t a) a.tmps, defers := [] } := by
        have := rep_zip (vs := encs k) (env := env) (tm := a.tmps) (ds := []) hpn ⟨rfl, hr.size, hr.at_⟩
        simpa using this
      have h1 := hasg (w.heap.size + 1) k W mk hk hS hBW _ W hrz hH.fresh0
      refine wpIn_mono h1 ?_
      rintro e a1 Wa ⟨_, env1, m1, ds1, hr1, hh1, ⟨rfl, hA, rfl⟩, hd1⟩
      have hds1 : ds1 = [] := hd1.same (fun e => nomatch e)
      subst hds1
      have hla : Wa.heap[w.heap.size + 1]? = some (.loop (rec .ready none)) := hh1.others.same _ _ hl rfl
      have hlt : w.heap.size + 1 < Wa.heap.size := (Array.getElem?_eq_some_iff.1 hla).1
      refine ⟨_, run_beginRound hla (by rw [hrec]), ?_⟩
      have hbb : Below base Wa (Wa.putObj (w.heap.size + 1) (.loop { rec .ready none with state := .busy })) := below_put _ hh1.wle (by omega)
      have h2 := hbd (w.heap.size + 1) k _ mk hk hS ((hBW.trans hh1.below).trans hbb) a1 _ (hr1.agree hA) (hh1.freshPut hla rfl)
      refine wpIn_mono h2 ?_
      rintro e a2 Wc ⟨_, env2, m2, ds2, hr2, hh2, ⟨rfl, t2, is2, mk', hS', hp2, hf2⟩, hd2⟩
      have hlc : Wc.heap[w.heap.size + 1]? = some (.loop { rec .ready none with state := .busy }) := hh2.others.same _ _ (World.putObj_heap_same hlt) rfl
      have her := run_endRound (P := P) none hlc
      refine ⟨_, _, her, rfl, _, ⟨mk', hS', rfl⟩, ?_⟩
      have hpk := hh2.pickT hp2 hf2
      have hbc : Below base Wc (Wc.putObj (w.heap.size + 1) (.loop { { rec .ready none with state := .busy } with state := if (none : Option Code).isNone then .ready else .done, pending := none })) := below_put _ hh2.wle (by omega)
      refine ⟨(((hH.below.trans hh1.below).trans hbb).trans hh2.below).trans hbc, hH.le, fun e he => (hpk.all e he).put hlc rfl rfl, hpk.apart, ⟨?_, fun j o hj ho => ?_⟩⟩
      · have h1 := hH.below.size
        have h2 : W.heap.size ≤ Wa.heap.size := hh1.below.size
        have h3 : (Wa.putObj (w.heap.size + 1) (.loop { rec .ready none with state := .busy })).heap.size ≤ Wc.heap.size := hh2.below.size
        rw [World.putObj_size] at h3 ⊢
        omega
      · by_cases hj2 : j = w.heap.size + 1
        · subst hj2
          rw [hL1] at hj
          cases hj
          have := World.putObj_heap_same (w := Wc) (o := .loop { { rec .ready none with state := .busy } with state := if (none : Option Code).isNone then .ready else .done, pending := none }) (Array.getElem?_eq_some_iff.1 hlc).1
          rw [this, hrec]; rfl
        · exact (World.putObj_heap_other hj2).trans (hh2.others.same _ _ ((World.putObj_heap_other hj2).trans (hh1.others.same _ _ (hH.others.same _ _ hj ho) ho)) ho)
/-- The same as it is met: what a round sees (V), what stays (Kp, Mk), what it turns (M), what is known of it (I). -/
theorem Ex.rangeKX {X : Type} {g : Operand} {ps : List Nat} {asg bd B : Code} {id gf N : Nat} {lb : List Value} {encs : Nat → List Value} {box : Ent} (V : Nat → Env) (M : Nat → X → List Ent) (I : Nat → X → Prop) (x0 : X) (Kp : Env) (Mk : List Ent) (t : Nat) (is : List Nat)
    (hg : ev env g = some (.func (.func gf) #[] (List.toArray lb))) (hit : IterX C.P gf lb C.base C.w0 box N encs) (hps : ∀ k, (encs k).length = ps.length) (hrd : C.rd = none) (hds : C.ds = []) (hpn : ps.all (fun p => Nat.blt p C.n) = true) (hM : pickT m t is = some (box :: (M 0 x0 ++ Mk))) (hf : freshT t is = true) (h0 : I 0 x0) (hK : Agree Kp env)
    (hasg : ∀ l k W x, k < N → I k x → Below C.base C.w0 W → Ex ⟨C.P, C.n, C.base, W, some l, []⟩ asg (zipR ps (encs k) env) (box :: (M k x ++ Mk)) (fun e env' m' => e = .normal ∧ Agree (V k ++ Kp) env' ∧ m' = box :: (M k x ++ Mk)))
    (hbd : ∀ l k W x, k < N → I k x → Below C.base C.w0 W → Ex ⟨C.P, C.n, C.base, W, some l, []⟩ bd (V k ++ Kp) (box :: (M k x ++ Mk)) (fun e env' m' => e = .normal ∧ ∃ x' t is, I (k + 1) x' ∧ pickT m' t is = some (box :: (M (k + 1) x' ++ Mk)) ∧ freshT t is = true))
    (hB : ∀ D W x, I N x → Below C.base C.w0 W → Ex ⟨C.P, C.n, C.base, W, none, [mark D]⟩ B env (box :: (M N x ++ Mk)) (fun e env' m' => e = .ret ∧ Q e env' m')) :
    ExT C (.block id (.rangeFunc g ps.toArray asg bd)) B env m Q := by
  refine Ex.rangeFX (Sf := fun k mk => ∃ x, I k x ∧ mk = M k x ++ Mk) (m0 := M 0 x0 ++ Mk) t is (fun k => V k ++ Kp) hrd hds hg hit hps hpn hM hf ⟨x0, h0, rfl⟩ ?_ ?_ ?_
  · rintro l k W _ hk ⟨x, hx, rfl⟩ hW
    exact hasg l k W x hk hx hW
  · rintro l k W _ hk ⟨x, hx, rfl⟩ hW
    have h := hbd l k W x hk hx hW
    unfold Ex at h ⊢
    intro a w hr hh
    refine wpIn_mono (h a w hr hh) ?_
    rintro e a2 w2 ⟨ho, env2, m2, ds2, hr2, hh2, ⟨he, x', t2, is2, hI, hp, hf2⟩, hd2⟩
    exact ⟨ho, env2, m2, ds2, hr2, hh2, ⟨he, t2, is2, _, ⟨x', hI, rfl⟩, hp, hf2⟩, hd2⟩
  · rintro D W _ ⟨x, hx, rfl⟩ hW
    exact hB D W x hx hW
theorem IterX.of {P : Program} {gf fn c n} {lb : List Value} {base : Nat} {w0 : World} {box : Ent} {N : Nat} {encs : Nat → List Value} (hE : Enters P gf) (hf : P.funcs[gf]? = some fn) (hb : fn.body = some c) (hn : fn.ntmps = n) (hrs : fn.results = List.toArray []) (hv : Nat.ble (lb.length + 1) n = true)
    (h : ∀ w1 l Sf m0, Below base w0 w1 → YieldsX P l base w1 box Sf N encs → Sf 0 m0 → Ex ⟨P, n, base, w1, none, []⟩ c (argsAt 0 (.func (.yield l) #[] #[] :: lb)) (box :: m0) (fun e env m => isEnd e = true ∧ ∃ mN, Sf N mN ∧ m = box :: mN)) : IterX P gf lb base w0 box N encs := by
  refine ⟨hE, fun w1 l Sf m0 W hW hY h0 hH => fcCalls (rd := none) (n := 0) (callsIn_of_wp_marks hf hb trivial ?_)⟩
  subst hn
  refine wpIn_mono (h w1 l Sf m0 hW hY h0 _ W (rep_start (Nat.le_of_ble_eq_true (by simpa using hv))) hH) ?_
  rintro e a w' ⟨ho, env, m, ds, hr, hh, ⟨hend, mN, hSN, rfl⟩, hd⟩
  refine bodyOf (e := e) hd hr hh (by cases e <;> simp_all [isEnd]) (fun w'' hh => ?_)
  have hrun := run_results (fn := fn) (rs := []) (vs := []) hrs trivial hr hh
  exact ⟨_, hrun, ⟨_, rfl⟩, mN, hSN, hh⟩
end Go.Sx

/- What these functions of the program hand back, each proved by walking its operations. -/
set_option linter.unusedVariables false
set_option linter.unusedSimpArgs false
set_option maxRecDepth 4000
namespace Go.Proofs.YtddflaaccmjoeaaGreatDoor
open Go Go.Sx Go.RowKit Go.W Go.Proofs
attribute [local irreducible] Ex ExL ExD Op1 Free RetQ MutQ Reads CellO SegO LoadsAs
theorem c_back1X (s : List Int) (As : Option Addr) (cs : Nat) (hls : s.length ≤ maxLen) (b base : Nat) (w0 : World) (hs : RdB base w0 As (s.flatMap (eI .u8))) : IterX Tryz.prog 105 [.pointer (some ⟨b, 0, none⟩)] base w0 (.blk b [.slice As s.length cs] 24) s.length (fun k => [.int .i64 ((s.length - 1 - k : Nat) : Int), .int .u8 (s.getD (s.length - 1 - k) 0)]) := by
  refine IterX.of e_105 Tryz.func105 rfl Tryz.ntmps105 rfl rfl (fun w1 l Sf m0 hW hY h0 => ?_)
  have hs := hs.keep hW
  have hm0 : maxLen = 9223372036854775807 := rfl
  refine Ex.regSeq (ExL.pures 0 rfl ?_)
  refine ExL.free (fr_load rfl rfl rfl rfl (CellO.blk (i := 0) rfl rfl)) rfl rfl rfl ?_
  refine ExL.pures 1 rfl ?_
  refine ExL.free (fr_sub64 rfl rfl rfl (by omega)) rfl rfl rfl ?_
  refine ExL.pures 1 rfl ?_
  refine ExL.nil ?_
  refine Ex.block ?_
  refine Ex.loopK (X := Nat × List Ent) (fun x => [(3, .int .i64 ((s.length : Int) - 1 - x.1))]) (fun x => .blk b [.slice As s.length cs] 24 :: x.2) (fun x => x.1 ≤ s.length ∧ Sf x.1 x.2) (fun x => s.length - x.1) (0, m0) [(0, _), (1, _)] [] 1 [0] ⟨agI (by simp), trivial⟩ ⟨rfl, rfl, trivial⟩ pick_box rfl ⟨Nat.zero_le _, h0⟩ (fun x hI => ?_)
  obtain ⟨hI, hS⟩ : x.1 ≤ s.length ∧ Sf x.1 x.2 := hI
  refine Ex.seq ?_
  refine Ex.regSeq (ExL.pures 1 rfl ?_)
  refine ExL.geq rfl rfl rfl rfl rfl rfl (fun h1 => ?_) (fun h1 => ?_)
  · have hk : x.1 < s.length := by omega
    have hj : (s.length : Int) - 1 - x.1 = ((s.length - 1 - x.1 : Nat) : Int) := by omega
    rw [hj]
    refine ExL.nil ?_
    refine Ex.cond_t rfl ?_
    refine Ex.skip ?_
    refine Ex.seq ?_
    refine Ex.block ?_
    refine Ex.regSeq (ExL.pures 2 rfl ?_)
    refine ExL.free (fr_load rfl rfl rfl rfl (CellO.blk (i := 0) rfl rfl)) rfl rfl rfl ?_
    refine ExL.pures 1 rfl ?_
    refine ExL.free (fr_indexAddrF (Reads.old hs) (eI_len .u8) rfl rfl rfl rfl rfl rfl (by omega)) rfl rfl rfl ?_
    refine ExL.free (fr_load rfl rfl rfl rfl (cellN (Reads.old hs) (eI_len .u8) 0 0 rfl (by omega) rfl)) rfl rfl rfl ?_
    refine ExL.yieldX rfl rfl rfl rfl rfl rfl (fun w hw => hY x.1 w x.2 hk hS (by simpa using hw)) ?_
    rintro _ ⟨mk, hS2, rfl⟩
    refine ExL.pures 1 rfl ?_
    refine ExL.nil ?_
    refine Ex.cond_f rfl ?_
    refine Ex.skip ?_
    refine Ex.region (ExL.pures 1 rfl ?_)
    refine ExL.free (fr_sub64 rfl rfl rfl (by omega)) rfl rfl rfl ?_
    refine ExL.pures 1 rfl ?_
    refine ExL.nil ?_
    exact Hand.mk (x.1 + 1, mk) 1 [0] ⟨agI (by show ((s.length - 1 - x.1 : Nat) : Int) - 1 = (s.length : Int) - 1 - ((x.1 + 1 : Nat) : Int); omega), trivial⟩ ⟨rfl, rfl, trivial⟩ pick_box rfl ⟨by dsimp only; omega, hS2⟩ (by dsimp only; omega)
  · refine ExL.nil ?_
    refine Ex.cond_f rfl ?_
    refine Ex.exit ?_
    have hk : x.1 = s.length := by omega
    exact ⟨rfl, x.2, hk ▸ hS, by simp⟩
theorem e_86 : Enters Tryz.prog 86 := Enters.of Tryz.func86 rfl
theorem c_Join (xs : List (List UInt8)) (n : Nat) (hn : xs.length = n) (A : Option Addr) (c : Nat) (sep : List UInt8) (hc : n ≤ c) (hl : xs.length ≤ 140737488355328) (hj : (Lib.join xs sep).length ≤ 140737488355328) : Ret Tryz.prog 86 [.slice A n c, sv sep] (fun w => Rd w A (xs.flatMap eSt)) (fun _ : Unit => sv (Lib.join xs sep)) (fun _ => []) (fun _ => True) := by
  subst hn
  refine ⟨e_86, fun w hr => ?_⟩
  rcases Nat.eq_zero_or_pos xs.length with h | h
  · obtain rfl := List.eq_nil_of_length_eq_zero h
    exact (Go.Proofs.Tryz.strings_Join_none A c (mkB sep) w).mono (by rintro e w' ⟨rfl, rfl⟩; exact ⟨(), trivial, rfl, Below.refl _ _, by simp, List.Pairwise.nil⟩)
  · obtain ⟨bk, o, rfl, hb, hcs⟩ := join_pre hr h
    have h1 := Go.Proofs.Tryz.strings_Join bk o c (xs.map mkB) (mkB sep) w hcs hb (by simpa using hl) (by simpa using hc) (by rw [mkB_map]; exact hj)
    rw [mkB_map, List.length_map] at h1
    exact h1.mono (by rintro e w' ⟨rfl, hbl⟩; exact ⟨(), trivial, rfl, hbl, by simp, List.Pairwise.nil⟩)
theorem e_108 : Enters Tryz.prog 108 := Enters.of Tryz.func108 rfl
theorem c_Repeat (l : List UInt8) (c : Int) (hc : c = 0 ∨ c = 1) : Ret Tryz.prog 108 [sv l, .int .i64 c] (fun _ => True) (fun _ : Unit => sv (if c = 1 then l else [])) (fun _ => []) (fun _ => True) := by
  refine ⟨e_108, fun w _ => ?_⟩
  rcases hc with rfl | rfl
  · exact (Go.Proofs.Tryz.strings_Repeat_zero (mkB l) w).mono (by rintro e w' ⟨rfl, rfl⟩; exact ⟨(), trivial, rfl, Below.refl _ _, by simp, List.Pairwise.nil⟩)
  · exact (Go.Proofs.Tryz.strings_Repeat_one (mkB l) w).mono (by rintro e w' ⟨rfl, rfl⟩; exact ⟨(), trivial, rfl, Below.refl _ _, by simp, List.Pairwise.nil⟩)
theorem e_85 : Enters Tryz.prog 85 := Enters.of Tryz.func85 rfl
theorem c_padded (n d : Int) (hn : 0 ≤ n ∧ n ≤ 1000) (hd : 0 ≤ d ∧ d ≤ ((Lib.itoa n).length : Int) + 1) : Ret Tryz.prog 85 [.int .i64 n, .int .i64 d] (fun w => TabO Tryz.prog w) (fun x : Unit => sv (padT n d)) (fun x => []) (fun x => True) := by
  refine Ret.of e_85 Tryz.func85 rfl Tryz.ntmps85 rfl rfl (fun w hpre => ?_)
  have htab := hpre
  have hil := itoa_le (n := n) (by omega)
  refine Ex.regSeq (ExL.pures 1 rfl ?_)
  refine ExL.nil ?_
  refine Ex.regSeq (ExL.pures 1 rfl ?_)
  refine ExL.op rfl (op_ret rfl rfl rfl (c_decimal n (by omega)) (fun w hw => TabO.keep htab hw) rfl rfl (fun x1 hx1 => ?_))
  refine ExL.pures 1 rfl ?_
  refine ExL.nil ?_
  have hif : (if max 0 (d - ((Lib.itoa n).length : Int)) = 1 then [48] else ([] : List UInt8)).length ≤ 1 := by split <;> simp
  refine Ex.regSeq (ExL.pures 2 rfl ?_)
  refine ExL.free (fr_lenS (l := Lib.itoa n) rfl rfl rfl) rfl rfl rfl ?_
  refine ExL.free (by first | exact fr_sub64 rfl rfl rfl (by omega) | exact fr_sub rfl rfl rfl) rfl rfl rfl ?_
  refine ExL.free (fr_max rfl rfl rfl) rfl rfl rfl ?_
  refine ExL.op rfl (op_ret rfl rfl rfl (c_Repeat [48] (max 0 (d - ((Lib.itoa n).length : Int))) (by omega)) (fun _ _ => trivial) rfl rfl (fun x2 hx2 => ?_))
  refine ExL.pures 1 rfl ?_
  refine ExL.free (fr_addS (l := (if (max 0 (d - ((Lib.itoa n).length : Int))) = 1 then [48] else [])) (r := Lib.itoa n) rfl rfl rfl (by first | omega | (simp only [List.length_append, List.length_cons, List.length_nil]; omega))) rfl rfl rfl ?_
  refine ExL.pures 1 rfl ?_
  refine ExL.nil ?_
  refine Ex.ret ?_
  refine RetQ.mk () rfl (.tmp rfl .nil) (rfl) [] (rfl) rfl (trivial)
end Go.Proofs.YtddflaaccmjoeaaGreatDoor

/- What these functions of the program hand back, each proved by walking its operations. -/
set_option linter.unusedVariables false
set_option linter.unusedSimpArgs false
set_option maxRecDepth 4000
namespace Go.Proofs.YtddflaaccmjoeaaGreatDoor
open Go Go.Sx Go.RowKit Go.W Go.Proofs
attribute [local irreducible] Ex ExL ExD Op1 Free RetQ MutQ Reads CellO SegO LoadsAs
theorem e_44 : Enters Tryz.prog 44 := Enters.of Tryz.func44 rfl
theorem c_text (s : List Int) (hv : validStack s = true) (As : Option Addr) (cs : Nat) (a : Dig) (ha : Nums 255 a.l) (hd : validDig s a.l = true) : Ret Tryz.prog 44 [.slice As s.length cs, .agg (encD a).toArray] (fun w => Rd w As (s.flatMap (eI .u8)) ∧ TabO Tryz.prog w) (fun x : Unit => sv (digT s a.l)) (fun x => []) (fun x => True) := by
  refine Ret.of e_44 Tryz.func44 rfl Tryz.ntmps44 rfl rfl (fun w hpre => ?_)
  have htab := hpre.2.base
  have hpre := hpre.1
  have hs := hpre.base
  have hS := stk hv
  have h8 := hS.len8
  have hD := digOk h8 ha hd
  have hn : s.length ≤ a.l.length := by rw [dig_len]; omega
  have hm0 : maxLen = 9223372036854775807 := rfl
  refine Ex.regSeq (ExL.pures 0 rfl ?_)
  refine ExL.op rfl (op_box rfl rfl rfl rfl rfl (fun b1 => ?_))
  refine ExL.pures 1 rfl ?_
  refine ExL.nil ?_
  refine Ex.regSeq (ExL.pures 0 rfl ?_)
  refine ExL.op rfl (op_buildSlice (sz := 1) rfl rfl rfl rfl rfl rfl rfl rfl (by decide) rfl rfl rfl (fun r2 => ?_))
  refine ExL.op rfl (op_alloc rfl rfl rfl rfl rfl (fun b3 => ?_))
  refine ExL.op rfl (op_storeC (i := 0) rfl rfl rfl rfl rfl rfl rfl rfl rfl rfl ?_)
  refine ExL.nil ?_
  refine ExT.seq ?_
  refine ExT.reg (ExL.pures 1 rfl ?_)
  refine ExL.op rfl (op_ret rfl rfl rfl (c_Back s _ _) (fun _ _ => trivial) rfl rfl (fun x4 hx4 => ?_))
  refine ExL.nil ?_
  refine Ex.rangeKX (X := Option Addr × Nat) (N := s.length) (encs := fun k => [.int .i64 ((s.length - 1 - k : Nat) : Int), .int .u8 (s.getD (s.length - 1 - k) 0)]) (fun k => [(6, .int .i64 ((s.length - 1 - k : Nat) : Int)), (7, .int .u8 (s.getD (s.length - 1 - k) 0))]) (fun k q => [.blk b3 [.slice q.1 k q.2] 72, .row (.slice q.1 k q.2) 9 1 k ((partsF (dpart s a.l) k).flatMap eSt)]) (fun k q => True) ((some ⟨r2, 0, none⟩), 0) [(3, _), (5, _)] [_] 4 [0, 1, 2, 3] rfl (c_back1X s As cs (by have := hS.len8; omega) _ _ _ hs) (fun _ => rfl) rfl rfl rfl (rfl) rfl (trivial) ⟨rfl, rfl, trivial⟩ (fun l k W q hk hI hW => ?_) (fun l k W q hk hI hW => ?_) (fun D W q hI hW => ?_)
  · have hs := hs.keep hW
    have htab := htab.keep hW
    refine Ex.regSeq (ExL.pures 1 rfl ?_)
    refine ExL.nil ?_
    refine Ex.region (ExL.pures 1 rfl ?_)
    refine ExL.nil ?_
    exact ⟨rfl, ⟨rfl, rfl, rfl, rfl, trivial⟩, rfl⟩
  · have hs := hs.keep hW
    have htab := htab.keep hW
    obtain ⟨j, hj⟩ : ∃ j : Nat, s.length - 1 - k = j := ⟨_, rfl⟩
    have hjs : j < s.length := by omega
    rw [hj]
    have hdj := hD j hjs
    have hbj := hS.bases j hjs
    obtain ⟨hpd, hpe⟩ := pad_dg hbj hdj
    have hdp : padT (a.l.getD j 0) ((Lib.itoa (s.getD j 0 - 1)).length : Int) = dpart s a.l k := by unfold dpart; rw [hj]; exact hpe
    have hil := itoa_le (n := s.getD j 0 - 1) (by omega)
    refine Ex.block ?_
    refine Ex.drawI [0, 1, 3] rfl rfl ?_
    refine ExD.take (i := 0) rfl (by kernel_rfl) (fr_load rfl rfl rfl rfl (CellO.blk (i := 1) rfl rfl)) ((List.Sublist.cons_cons _ (List.Sublist.cons_cons _ (List.Sublist.cons _ (List.Sublist.refl _))))) rfl rfl rfl ?_
    refine ExD.take (i := 1) rfl (by kernel_rfl) (pureVal_ok rfl) ((List.Sublist.cons_cons _ (List.Sublist.cons_cons _ (List.Sublist.cons _ (List.Sublist.refl _))))) rfl rfl rfl ?_
    refine ExD.take (i := 2) rfl (by kernel_rfl) (fr_indexAddr_b (sz := 1) rfl rfl rfl rfl rfl (by omega)) ((List.Sublist.cons_cons _ (List.Sublist.cons_cons _ (List.Sublist.cons _ (List.Sublist.refl _))))) rfl rfl rfl ?_
    refine ExD.take (i := 3) rfl (by kernel_rfl) (fr_load rfl rfl rfl rfl (CellO.blk (i := 2) rfl (blkG (eI_len .u8) 0 rfl (by rw [dig_len]; omega) rfl))) ((List.Sublist.cons_cons _ (List.Sublist.cons_cons _ (List.Sublist.cons _ (List.Sublist.refl _))))) rfl rfl rfl ?_
    refine ExD.take (i := 4) rfl (by kernel_rfl) (by first | exact fr_conv64 rfl rfl rfl rfl (by omega) | exact fr_conv rfl rfl rfl rfl) ((List.Sublist.cons_cons _ (List.Sublist.cons_cons _ (List.Sublist.cons _ (List.Sublist.refl _))))) rfl rfl rfl ?_
    refine ExD.take (i := 5) rfl (by kernel_rfl) (pureVal_ok rfl) ((List.Sublist.cons_cons _ (List.Sublist.cons_cons _ (List.Sublist.cons _ (List.Sublist.refl _))))) rfl rfl rfl ?_
    refine ExD.take (i := 6) rfl (by kernel_rfl) (by first | exact fr_conv64 rfl rfl rfl rfl (by omega) | exact fr_conv rfl rfl rfl rfl) ((List.Sublist.cons_cons _ (List.Sublist.cons_cons _ (List.Sublist.cons _ (List.Sublist.refl _))))) rfl rfl rfl ?_
    refine ExD.take (i := 7) rfl (by kernel_rfl) (by first | exact fr_sub64 rfl rfl rfl (by omega) | exact fr_sub rfl rfl rfl) ((List.Sublist.cons_cons _ (List.Sublist.cons_cons _ (List.Sublist.cons _ (List.Sublist.refl _))))) rfl rfl rfl ?_
    refine ExD.op (i := 8) rfl (by kernel_rfl) rfl (op_ret rfl rfl rfl (c_decimal ((s.getD j 0) - 1) (by omega)) (fun w hw => TabB.get htab hw) rfl rfl (fun x5 hx5 => ⟨(List.Sublist.cons_cons _ (List.Sublist.cons_cons _ (List.Sublist.cons _ (List.Sublist.refl _)))), ?_⟩))
    refine ExD.take (i := 9) rfl (by kernel_rfl) (fr_lenS (l := Lib.itoa ((s.getD j 0) - 1)) rfl rfl rfl) ((List.Sublist.cons_cons _ (List.Sublist.cons_cons _ (List.Sublist.cons _ (List.Sublist.refl _))))) rfl rfl rfl ?_
    refine ExD.op (i := 10) rfl (by kernel_rfl) rfl (op_ret rfl rfl rfl (c_padded (a.l.getD j 0) ((Lib.itoa ((s.getD j 0) - 1)).length : Int) (by omega) (by omega)) (fun w hw => TabB.get htab hw) rfl rfl (fun x6 hx6 => ⟨(List.Sublist.cons_cons _ (List.Sublist.cons_cons _ (List.Sublist.cons _ (List.Sublist.refl _)))), ?_⟩))
    refine ExD.op (i := 11) rfl (by kernel_rfl) rfl (op_buildSlice (sz := 1) rfl rfl rfl rfl rfl rfl rfl rfl (by decide) rfl rfl rfl (fun r7 => ⟨(List.Sublist.cons _ (List.Sublist.cons_cons _ (List.Sublist.cons_cons _ (List.Sublist.cons _ (List.Sublist.refl _))))), ?_⟩))
    refine ExD.op (i := 12) rfl (by kernel_rfl) rfl (op_append (sz := 1) (bytes := 16) (i := 3) rfl rfl rfl rfl (Reads.row (i := 0) rfl) rfl (fun e => nomatch e) rfl rfl rfl rfl (by constructor <;> first | omega | (unfold maxLen; omega)) rfl rfl (fun A8 cA8 => ⟨(List.Sublist.cons _ (List.Sublist.cons_cons _ (List.Sublist.cons_cons _ (List.Sublist.cons _ (List.Sublist.refl _))))), ?_⟩))
    refine ExD.last (i := 13) rfl (by kernel_rfl) (by kernel_rfl) rfl (op_storeC (i := 2) rfl rfl rfl rfl rfl rfl rfl rfl rfl rfl ?_)
    refine ExD.done (by kernel_rfl) ?_
    exact ⟨rfl, (A8, cA8), 5, [1, 2, 3, 4], trivial, (pk3R (by rw [partsF_s, List.flatMap_append, ← hdp]; rfl)), rfl⟩
  · have hs := hs.keep hW
    have htab := htab.keep hW
    refine Ex.know (row_cap' (i := 2) rfl) (fun hcap => ?_)
    have hpl := partsF_len (dpart s a.l) s.length
    refine Ex.regSeq (ExL.pures 0 rfl ?_)
    refine ExL.free (fr_load rfl rfl rfl rfl (CellO.blk (i := 1) rfl rfl)) rfl rfl rfl ?_
    refine ExL.op rfl (op_ret rfl rfl rfl (c_Join (partsF (dpart s a.l) s.length) _ hpl _ _ [58] hcap (by omega) (Nat.le_trans (digT_le hS hD) (by decide))) (Reads.get (Reads.row (i := 2) rfl)) rfl rfl (fun x10 hx10 => ?_))
    refine ExL.pures 1 rfl ?_
    refine ExL.nil ?_
    refine Ex.ret ?_
    refine ⟨rfl, ?_⟩
    refine RetQ.mk () rfl (.tmp rfl .nil) (rfl) [] (rfl) rfl (trivial)
theorem e_81 : Enters Tryz.prog 81 := Enters.of Tryz.func81 rfl
theorem c_iDigitsText (s : List Int) (hu : Nums 255 s) (As : Option Addr) (cs : Nat) (hls : s.length ≤ maxLen) (a : Dig) (ha : Nums 255 a.l) : Ret Tryz.prog 81 [.slice As s.length cs, .agg (encD a).toArray] (fun w => Rd w As (s.flatMap (eI .u8)) ∧ TabO Tryz.prog w) (fun x : Unit => sv (digTx s a.l)) (fun x => []) (fun x => True) := by
  refine Ret.of e_81 Tryz.func81 rfl Tryz.ntmps81 rfl rfl (fun w hpre => ?_)
  have hs := hpre.1.base
  have htab := hpre.2
  have hm0 : maxLen = 9223372036854775807 := rfl
  refine Ex.regSeq (ExL.pures 0 rfl ?_)
  refine ExL.op rfl (op_box rfl rfl rfl rfl rfl (fun b1 => ?_))
  refine ExL.pures 1 rfl ?_
  refine ExL.nil ?_
  refine Ex.seq ?_
  refine Ex.regSeq (ExL.pures 1 rfl ?_)
  refine ExL.free (fr_loadN rfl rfl rfl rfl rfl (SegO.whole (i := 0) rfl)) rfl rfl rfl ?_
  refine ExL.op rfl (op_ret rfl rfl rfl (c_iValidDigits s (by assumption) _ _ (by omega) a (by assumption)) (Reads.get (Reads.old hs)) rfl rfl (fun x2 hx2 => ?_))
  refine ExL.pures 1 rfl ?_
  refine ExL.nil ?_
  refine Ex.cond rfl (fun hb3 => ?_) (fun hb3 => ?_)
  · replace hb3 := nb_t hb3
    refine Ex.regSeq (ExL.pures 1 rfl ?_)
    refine ExL.nil ?_
    refine Ex.ret ?_
    refine RetQ.mk () rfl (.tmp rfl .nil) (tS (by first | exact (digTx_f (by assumption)).symm | exact (digTx_t (by assumption)).symm)) [] (rfl) rfl (trivial)
  · replace hb3 := nb_f hb3
    refine Ex.skip ?_
    refine Ex.regSeq (ExL.pures 1 rfl ?_)
    refine ExL.free (fr_loadN rfl rfl rfl rfl rfl (SegO.whole (i := 0) rfl)) rfl rfl rfl ?_
    refine ExL.op rfl (op_ret rfl rfl rfl (c_text s (by first | assumption | simp_all) _ _ a (by assumption) (by first | assumption | simp_all)) (fun w hw => ⟨Reads.get (Reads.old hs) w hw, TabO.keep htab hw⟩) rfl rfl (fun x4 hx4 => ?_))
    refine ExL.pures 1 rfl ?_
    refine ExL.nil ?_
    refine Ex.ret ?_
    refine RetQ.mk () rfl (.tmp rfl .nil) (tS (by first | exact (digTx_f (by assumption)).symm | exact (digTx_t (by assumption)).symm)) [] (rfl) rfl (trivial)
end Go.Proofs.YtddflaaccmjoeaaGreatDoor

/- What these functions of the program hand back, each proved by walking its operations. -/
set_option linter.unusedVariables false
set_option linter.unusedSimpArgs false
set_option maxRecDepth 4000
namespace Go.Proofs.YtddflaaccmjoeaaGreatDoor
open Go Go.Sx Go.RowKit Go.W Go.Proofs
attribute [local irreducible] Ex ExL ExD Op1 Free RetQ MutQ Reads CellO SegO LoadsAs
theorem e_40 : Enters Tryz.prog 40 := Enters.of Tryz.func40 rfl
set_option maxHeartbeats 1000000 in
theorem c_iReadDigits (s : List Int) (hu : Nums 255 s) (As : Option Addr) (cs : Nat) (hls : s.length ≤ maxLen) (t : List UInt8) (hl : t.length ≤ 1048576) : Ret Tryz.prog 40 [.slice As s.length cs, sv t] (fun w => Rd w As (s.flatMap (eI .u8)) ∧ RdO 0 1 2 w ∧ TabO Tryz.prog w) (fun x : Dig × Int => .tuple #[.agg (encD x.1).toArray, .int .i64 x.2]) (fun x => []) (fun x => RdDig s t x) := by
  refine Ret.of e_40 Tryz.func40 rfl Tryz.ntmps40 rfl rfl (fun w hpre => ?_)
  have hs := hpre.1.base
  have hrd := hpre.2.1
  have htab := hpre.2.2
  have hpn := splitA_len 58 t []
  have hm0 : maxLen = 9223372036854775807 := rfl
  refine Ex.regSeq (ExL.pures 0 rfl ?_)
  refine ExL.op rfl (op_alloc rfl rfl rfl rfl rfl (fun b1 => ?_))
  refine ExL.pures 1 rfl ?_
  refine ExL.nil ?_
  refine Ex.seq ?_
  refine Ex.regSeq (ExL.pures 1 rfl ?_)
  refine ExL.op rfl (op_ret rfl rfl rfl (c_ValidStack _ (by assumption) _ _ (by first | assumption | omega | (unfold maxLen; omega))) (Reads.get (Reads.old hs)) rfl rfl (fun x2 hx2 => ?_))
  refine ExL.pures 1 rfl ?_
  refine ExL.nil ?_
  refine Ex.cond rfl (fun hb3 => ?_) (fun hb3 => ?_)
  · replace hb3 := nb_t hb3
    refine Ex.regSeq (ExL.pures 0 rfl ?_)
    refine ExL.free (fr_build rfl rfl rfl rfl) rfl rfl rfl ?_
    refine ExL.op rfl (op_storeC (i := 0) rfl rfl rfl rfl rfl rfl rfl rfl rfl rfl ?_)
    refine ExL.pures 1 rfl ?_
    refine ExL.nil ?_
    refine Ex.ret ?_
    refine RetQ.mk (dig0, 1) rfl (.cell rfl (.many rfl rfl rfl (SegO.whole (i := 0) rfl)) (.tmp rfl .nil)) (rfl) [] (rfl) rfl (rdDig_v (by assumption))
  · replace hb3 := nb_f hb3
    refine Ex.skip ?_
    have hv := (by assumption : validStack s = true)
    have hS := stk hv
    have h8 := hS.len8
    refine Ex.regSeq (ExL.pures 0 rfl ?_)
    refine ExL.free (fr_build rfl rfl rfl rfl) rfl rfl rfl ?_
    refine ExL.pures 1 rfl ?_
    refine ExL.op rfl (op_ret rfl rfl rfl (c_Split t 58 (by omega)) (fun w hw => RdO.keep hrd hw) rfl rfl (fun x4 hx4 => ?_))
    refine ExL.op rfl (op_alloc rfl rfl rfl rfl rfl (fun b5 => ?_))
    refine ExL.op rfl (op_storeC (i := 0) rfl rfl rfl rfl rfl rfl rfl rfl rfl rfl ?_)
    refine ExL.pures 1 rfl ?_
    refine ExL.nil ?_
    refine Ex.seq ?_
    refine Ex.regSeq (ExL.pures 4 rfl ?_)
    refine ExL.neq rfl rfl rfl rfl rfl rfl (fun h6 => ?_) (fun h6 => ?_)
    · refine ExL.nil ?_
      refine Ex.cond_t rfl ?_
      refine Ex.regSeq (ExL.pures 0 rfl ?_)
      refine ExL.free (fr_build rfl rfl rfl rfl) rfl rfl rfl ?_
      refine ExL.op rfl (op_storeC (i := 2) rfl rfl rfl rfl rfl rfl rfl rfl rfl rfl ?_)
      refine ExL.pures 1 rfl ?_
      refine ExL.nil ?_
      refine Ex.ret ?_
      refine RetQ.mk (dig0, 5) rfl (.cell rfl (.many rfl rfl rfl (SegO.whole (i := 2) rfl)) (.tmp rfl .nil)) (rfl) [] (rfl) rfl (rdDig_no (by assumption) (ndg_len hS (by omega)))
    · refine ExL.nil ?_
      refine Ex.cond_f rfl ?_
      refine Ex.skip ?_
      refine Ex.seq ?_
      refine Ex.regSeq (ExL.pures 3 rfl ?_)
      refine ExL.nil ?_
      refine Ex.block ?_
      refine Ex.loopK (X := DgS) (fun q => [(27, .int .i64 q.k)]) (fun q => [.blk b5 (q.d.flatMap (eI .u8)) 80]) (fun q => q.k ≤ s.length ∧ q.d.length = 8 ∧ Nums 255 q.d ∧ DigU s t q.d q.k) (fun q => s.length - q.k) (⟨0, zeros8⟩ : DgS) [(0, _), (1, _), (4, _), (6, _), (25, _), (26, _)] [_, _] 3 [0, 1, 2] ⟨rfl, trivial⟩ ⟨rfl, rfl, rfl, rfl, rfl, rfl, trivial⟩ (rfl) rfl ⟨Nat.zero_le _, rfl, nums_z, digU_0 s t⟩ (fun q hI => ?_)
      have hI : q.k ≤ s.length ∧ q.d.length = 8 ∧ Nums 255 q.d ∧ DigU s t q.d q.k := hI
      obtain ⟨hqk, hq8, hqn, hqd⟩ := hI
      refine Ex.regSeq (ExL.pures 0 rfl ?_)
      refine ExL.lss rfl rfl rfl rfl rfl rfl (fun h7 => ?_) (fun h7 => ?_)
      · refine ExL.nil ?_
        refine Ex.seq ?_
        refine Ex.cond_t rfl ?_
        refine Ex.skip ?_
        refine Ex.seq ?_
        refine Ex.block ?_
        have hwl := piece_le 58 t q.k
        refine Ex.regSeq (ExL.pures 1 rfl ?_)
        refine ExL.free (fr_indexAddr (sz := 1) rfl rfl rfl rfl rfl rfl (by omega)) rfl rfl rfl ?_
        refine ExL.free (fr_load rfl rfl rfl rfl (by first | exact cellN (Reads.row (i := 1) rfl) eSt_len ([] : List UInt8) 0 rfl (by omega) rfl | exact cellF (Reads.row (i := 1) rfl) eSt_len ([] : List UInt8) 0 rfl (by omega) rfl)) rfl rfl rfl ?_
        refine ExL.pures 2 rfl ?_
        refine ExL.nil ?_
        refine Ex.regSeq (ExL.pures 1 rfl ?_)
        refine ExL.op rfl (op_ret rfl rfl rfl (c_ParseUint ((splitA 58 [] t).getD q.k []) (by omega)) (fun w hw => RdO.keep hrd hw) rfl rfl (fun x8 hx8 => ?_))
        have hbx8 : 0 ≤ x8.1 ∧ x8.1 ≤ 127 := hx8.1
        refine ExL.pures 5 rfl ?_
        refine ExL.nil ?_
        refine Ex.seq ?_
        refine Ex.regSeq (ExL.pures 1 rfl ?_)
        refine ExL.free (fr_neq_err rfl rfl rfl rfl) rfl rfl rfl ?_
        refine ExL.nil ?_
        refine Ex.cond rfl (fun hb9 => ?_) (fun hb9 => ?_)
        · replace hb9 := nb_t hb9
          refine Ex.regSeq (ExL.pures 0 rfl ?_)
          refine ExL.free (fr_build rfl rfl rfl rfl) rfl rfl rfl ?_
          refine ExL.op rfl (op_storeC (i := 2) rfl rfl rfl rfl rfl rfl rfl rfl rfl rfl ?_)
          refine ExL.pures 1 rfl ?_
          refine ExL.nil ?_
          refine Ex.ret ?_
          refine RetQ.mk (dig0, 5) rfl (.cell rfl (.many rfl rfl rfl (SegO.whole (i := 2) rfl)) (.tmp rfl .nil)) (rfl) [] (rfl) rfl (rdDig_no hv (ndg_err hS (j := s.length - 1 - q.k) (by omega) (by rw [show s.length - 1 - (s.length - 1 - q.k) = q.k by omega]; exact hx8.2.2 (by assumption))))
        · replace hb9 := nb_f hb9
          refine Ex.skip ?_
          obtain ⟨j, hj⟩ : ∃ j : Nat, (s.length : Int) - 1 - q.k = (j : Int) := ⟨s.length - 1 - q.k, by omega⟩
          have hjj : s.length - 1 - q.k = j := by omega
          refine Ex.region (ExL.pures 2 rfl ?_)
          refine ExL.free (by first | exact fr_sub64 rfl rfl rfl (by omega) | exact fr_sub rfl rfl rfl) rfl rfl rfl ?_
          refine ExL.pures 1 rfl ?_
          refine ExL.free (fr_sub64J j rfl rfl rfl hj (by omega)) rfl rfl rfl ?_
          refine ExL.pures 1 rfl ?_
          refine ExL.free (by first | exact fr_conv_u8 rfl rfl rfl rfl (by omega) | exact fr_conv rfl rfl rfl rfl) rfl rfl rfl ?_
          refine ExL.free (fr_indexAddr_b (sz := 1) rfl rfl rfl rfl rfl (by omega)) rfl rfl rfl ?_
          refine ExL.op rfl (op_store (i := 0) rfl rfl rfl rfl rfl rfl rfl rfl (room (eI_len .u8) (k := j) (by omega) (by simp) rfl) rfl ?_)
          refine ExL.nil ?_
          refine Ex.region (ExL.pures 0 rfl ?_)
          refine ExL.free (by first | exact fr_add64 rfl rfl rfl (by omega) | exact fr_add rfl rfl rfl) rfl rfl rfl ?_
          refine ExL.pures 1 rfl ?_
          refine ExL.nil ?_
          refine Hand.mk (⟨q.k + 1, q.d.set j x8.1⟩ : DgS) 3 [0, 1, 2] ⟨rfl, trivial⟩ ⟨rfl, rfl, rfl, rfl, rfl, rfl, trivial⟩ (pkB (set_put (eI_len .u8) q.d j _ (by omega) (by simp) rfl)) rfl (⟨by dsimp only; omega, by rw [List.length_set]; exact hq8, nums_set hqn ⟨by omega, by omega⟩, digU_s hq8 (by omega) (by omega) hjj.symm hqd (hx8.2.1 (by assumption))⟩) (by dsimp only; omega)
      · refine ExL.nil ?_
        refine Ex.seq ?_
        refine Ex.cond_f rfl ?_
        refine Ex.exit ?_
        have hks : q.k = s.length := by omega
        rw [← encD_dig hq8]
        have hnd : Nums 255 (dig q.d).l := by rw [dig_l hq8]; exact hqn
        refine Ex.seq ?_
        refine Ex.regSeq (ExL.pures 1 rfl ?_)
        refine ExL.free (fr_loadN rfl rfl rfl rfl rfl (SegO.whole (i := 0) rfl)) rfl rfl rfl ?_
        refine ExL.op rfl (op_ret rfl rfl rfl (c_iDigitsText s (by assumption) _ _ (by omega) (dig q.d) (by assumption)) (fun w hw => ⟨Reads.get (Reads.old hs) w hw, TabO.keep htab hw⟩) rfl rfl (fun x10 hx10 => ?_))
        refine ExL.pures 1 rfl ?_
        refine ExL.free (fr_neqS (l := (digTx s (dig q.d).l)) (r := t) rfl rfl rfl) rfl rfl rfl ?_
        refine ExL.nil ?_
        refine Ex.cond rfl (fun hb11 => ?_) (fun hb11 => ?_)
        · replace hb11 := nd_t hb11
          refine Ex.regSeq (ExL.pures 0 rfl ?_)
          refine ExL.free (fr_build rfl rfl rfl rfl) rfl rfl rfl ?_
          refine ExL.op rfl (op_storeC (i := 2) rfl rfl rfl rfl rfl rfl rfl rfl rfl rfl ?_)
          refine ExL.pures 1 rfl ?_
          refine ExL.nil ?_
          refine Ex.ret ?_
          refine RetQ.mk (dig0, 5) rfl (.cell rfl (.many rfl rfl rfl (SegO.whole (i := 2) rfl)) (.tmp rfl .nil)) (rfl) [] (rfl) rfl (rdDig_n hv hq8 (by rw [← hks]; exact hqd) (by assumption))
        · replace hb11 := nd_f hb11
          refine Ex.skip ?_
          refine Ex.regSeq (ExL.pures 0 rfl ?_)
          refine ExL.free (fr_loadN rfl rfl rfl rfl rfl (SegO.whole (i := 0) rfl)) rfl rfl rfl ?_
          refine ExL.op rfl (op_storeC (i := 2) rfl rfl rfl rfl rfl rfl rfl rfl rfl rfl ?_)
          refine ExL.pures 1 rfl ?_
          refine ExL.nil ?_
          refine Ex.ret ?_
          refine RetQ.mk (dig q.d, 0) rfl (.cell rfl (.many rfl rfl rfl (SegO.whole (i := 2) rfl)) (.tmp rfl .nil)) (rfl) [] (rfl) rfl (rdDig_i hv hq8 hqn (by omega) (by rw [← hks]; exact hqd) (by assumption))
end Go.Proofs.YtddflaaccmjoeaaGreatDoor

/- What these functions of the program hand back, each proved by walking its operations. -/
set_option linter.unusedVariables false
set_option linter.unusedSimpArgs false
set_option maxRecDepth 4000
namespace Go.Proofs.YtddflaaccmjoeaaGreatDoor
open Go Go.Sx Go.RowKit Go.W Go.Proofs
attribute [local irreducible] Ex ExL ExD Op1 Free RetQ MutQ Reads CellO SegO LoadsAs
theorem e_39 : Enters Tryz.prog 39 := Enters.of Tryz.func39 rfl
theorem c_readDecimal (t : List UInt8) (hl : t.length ≤ 1048576) : Ret Tryz.prog 39 [sv t] (fun w => RdO 0 1 2 w ∧ TabO Tryz.prog w) (fun x : Int × Bool => .tuple #[.int .i64 x.1, .bool x.2]) (fun x => []) (fun x => RDec t x) := by
  refine Ret.of e_39 Tryz.func39 rfl Tryz.ntmps39 rfl rfl (fun w hpre => ?_)
  have hrd := hpre.1
  have htab := hpre.2
  have hm0 : maxLen = 9223372036854775807 := rfl
  refine Ex.regSeq (ExL.pures 2 rfl ?_)
  refine ExL.nil ?_
  refine Ex.regSeq (ExL.pures 1 rfl ?_)
  refine ExL.op rfl (op_ret rfl rfl rfl (c_ParseInt t (by omega)) (fun w hw => RdO.keep hrd hw) rfl rfl (fun x1 hx1 => ?_))
  have hbx1 : -9223372036854775808 ≤ x1.1 ∧ x1.1 ≤ 9223372036854775807 := hx1.1
  refine ExL.pures 5 rfl ?_
  refine ExL.nil ?_
  refine Ex.regSeq (ExL.pures 2 rfl ?_)
  refine ExL.free (fr_eql_err rfl rfl rfl rfl) rfl rfl rfl ?_
  refine ExL.pures 1 rfl ?_
  refine ExL.bool (d := 14) rfl (fun hb2 => ?_) (fun hb2 => ?_)
  · refine ExL.pures 1 rfl ?_
    refine ExL.op rfl (op_ret rfl rfl rfl (c_decimal x1.1 (by omega)) (fun w hw => TabO.keep htab hw) rfl rfl (fun x3 hx3 => ?_))
    refine ExL.pures 1 rfl ?_
    refine ExL.free (fr_eqlS (l := Lib.itoa x1.1) (r := t) rfl rfl rfl) rfl rfl rfl ?_
    refine ExL.pures 3 rfl ?_
    refine ExL.nil ?_
    refine Ex.ret ?_
    refine RetQ.mk (x1.1, decide (Lib.itoa x1.1 = t)) rfl (.tmp rfl (.tmp rfl .nil)) (rfl) [] (rfl) rfl (rdec_t hx1 (by assumption))
  · refine ExL.pures 7 rfl ?_
    refine ExL.nil ?_
    refine Ex.ret ?_
    refine RetQ.mk (x1.1, false) rfl (.tmp rfl (.tmp rfl .nil)) (rfl) [] (rfl) rfl (rdec_f hx1 (by assumption))
end Go.Proofs.YtddflaaccmjoeaaGreatDoor

/- What these functions of the program hand back, each proved by walking its operations. -/
set_option linter.unusedVariables false
set_option linter.unusedSimpArgs false
set_option maxRecDepth 4000
namespace Go.Proofs.YtddflaaccmjoeaaGreatDoor
open Go Go.Sx Go.RowKit Go.W Go.Proofs
attribute [local irreducible] Ex ExL ExD Op1 Free RetQ MutQ Reads CellO SegO LoadsAs
theorem e_83 : Enters Tryz.prog 83 := Enters.of Tryz.func83 rfl
theorem copyCheck_n (b : Nat) (A : Option Addr) (n c : Nat) : Mut Tryz.prog 83 [.pointer (some ⟨b, 0, none⟩)] [.blk b [.pointer none, .slice A n c] 88] (fun base w0 F => True) (fun x : Unit => .tuple #[]) (fun x => [.blk b [.pointer (some ⟨b, 0, none⟩), .slice A n c] 88]) (fun x => True) := by
  refine Mut.of e_83 Tryz.func83 rfl Tryz.ntmps83 rfl rfl (fun base w0 F hfr => ?_)
  refine Ex.regSeq (ExL.pures 3 rfl ?_)
  refine ExL.free (fr_load rfl rfl rfl rfl (CellO.blk (i := 0) rfl rfl)) rfl rfl rfl ?_
  refine ExL.free (fr_eql_ptr_n rfl rfl rfl rfl) rfl rfl rfl ?_
  refine ExL.nil ?_
  refine Ex.cond_t rfl ?_
  refine Ex.region (ExL.pures 2 rfl ?_)
  refine ExL.free (fr_toUnsafe (i := 0) rfl rfl rfl rfl rfl rfl rfl rfl) rfl rfl rfl ?_
  refine ExL.free (fr_noEsc rfl rfl rfl rfl Tryz.func106 (by kernel_rfl) rfl (by kernel_rfl) (by kernel_rfl)) rfl rfl rfl ?_
  refine ExL.free (fr_fromUnsafe (i := 0) rfl rfl rfl rfl rfl rfl (by kernel_rfl)) rfl rfl rfl ?_
  refine ExL.pures 2 rfl ?_
  refine ExL.op rfl (op_storeC (i := 0) rfl rfl rfl rfl rfl rfl rfl rfl rfl rfl ?_)
  refine ExL.nil ?_
  refine MutQ.mk () rfl .nil (rfl) 1 [0] (rfl) rfl (trivial)
theorem copyCheck_s (b : Nat) (A : Option Addr) (n c : Nat) : Mut Tryz.prog 83 [.pointer (some ⟨b, 0, none⟩)] [.blk b [.pointer (some ⟨b, 0, none⟩), .slice A n c] 88] (fun base w0 F => True) (fun x : Unit => .tuple #[]) (fun x => [.blk b [.pointer (some ⟨b, 0, none⟩), .slice A n c] 88]) (fun x => True) := by
  refine Mut.of e_83 Tryz.func83 rfl Tryz.ntmps83 rfl rfl (fun base w0 F hfr => ?_)
  refine Ex.regSeq (ExL.pures 3 rfl ?_)
  refine ExL.free (fr_load rfl rfl rfl rfl (CellO.blk (i := 0) rfl rfl)) rfl rfl rfl ?_
  refine ExL.free (fr_eql_ptr_s rfl rfl rfl rfl) rfl rfl rfl ?_
  refine ExL.nil ?_
  refine Ex.cond_f rfl ?_
  refine Ex.regSeq (ExL.pures 3 rfl ?_)
  refine ExL.free (fr_load rfl rfl rfl rfl (CellO.blk (i := 0) rfl rfl)) rfl rfl rfl ?_
  refine ExL.pures 1 rfl ?_
  refine ExL.free (fr_neq_ptr_same rfl rfl rfl rfl rfl) rfl rfl rfl ?_
  refine ExL.nil ?_
  refine Ex.cond_f rfl ?_
  refine Ex.skip ?_
  refine MutQ.mk () rfl .nil (rfl) 1 [0] (rfl) rfl (trivial)
theorem copyCheck_j (b : Nat) (u : Bool) (A : Option Addr) (n c : Nat) : Mut Tryz.prog 83 [.pointer (some ⟨b, 0, none⟩)] [.blk b [bp b u, .slice A n c] 88] (fun _ _ _ => True) (fun _ : Unit => .tuple #[]) (fun _ => [.blk b [bp b true, .slice A n c] 88]) (fun _ => True) := by
  cases u
  · exact copyCheck_n b A n c
  · exact copyCheck_s b A n c
theorem e_42 : Enters Tryz.prog 42 := Enters.of Tryz.func42 rfl
theorem c_WriteString (b : Nat) (u : Bool) (xs : List UInt8) (A : Option Addr) (c : Nat) (l : List UInt8) (hb : xs.length + l.length ≤ 140737488355328) : Mut Tryz.prog 42 [.pointer (some ⟨b, 0, none⟩), sv l] [.blk b [bp b u, .slice A xs.length c] 88, .row (.slice A xs.length c) 5 1 xs.length (xs.flatMap eU)] (fun base w0 F => True) (fun x : Option Addr × Nat => .tuple #[.int .i64 l.length, .nilIface]) (fun x => [.blk b [bp b true, .slice x.1 (xs ++ l).length x.2] 88, .row (.slice x.1 (xs ++ l).length x.2) 5 1 (xs ++ l).length ((xs ++ l).flatMap eU)]) (fun x => True) := by
  refine Mut.of e_42 Tryz.func42 rfl Tryz.ntmps42 rfl rfl (fun base w0 F hfr => ?_)
  refine Ex.regSeq (ExL.pures 2 rfl ?_)
  refine ExL.nil ?_
  refine Ex.regSeq (ExL.pures 1 rfl ?_)
  refine ExL.op rfl (op_mut rfl rfl rfl (copyCheck_j b u _ _ _) (perm_at (i := 0) rfl) (trivial) rfl rfl (fun x1 hx1 => ?_))
  refine ExL.nil ?_
  refine Ex.regSeq (ExL.pures 4 rfl ?_)
  refine ExL.free (fr_load rfl rfl rfl rfl (CellO.blk (i := 0) rfl rfl)) rfl rfl rfl ?_
  refine ExL.pures 1 rfl ?_
  refine ExL.op rfl (op_appendT (xs := xs) (l := l) (i := 1) rfl rfl rfl rfl rfl rfl rfl rfl (by omega) rfl rfl (fun A2 cA2 => ?_))
  refine ExL.pures 2 rfl ?_
  refine ExL.op rfl (op_storeC (i := 0) rfl rfl rfl rfl rfl rfl rfl rfl rfl rfl ?_)
  refine ExL.nil ?_
  refine Ex.regSeq (ExL.pures 1 rfl ?_)
  refine ExL.free (fr_lenS (l := l) rfl rfl rfl) rfl rfl rfl ?_
  refine ExL.pures 2 rfl ?_
  refine ExL.nil ?_
  refine Ex.ret ?_
  refine MutQ.mk (A2, cA2) rfl (.tmp rfl (.tmp rfl .nil)) (rfl) 2 [0, 1] (rfl) rfl (trivial)
theorem e_46 : Enters Tryz.prog 46 := Enters.of Tryz.func46 rfl
theorem c_String_0 (b : Nat) (u : Bool) : Mut Tryz.prog 46 [.pointer (some ⟨b, 0, none⟩)] [.blk b [bp b u, .slice none 0 0] 88] (fun base w0 F => True) (fun x : Unit => sv []) (fun x => []) (fun x => True) := by
  refine Mut.of e_46 Tryz.func46 rfl Tryz.ntmps46 rfl rfl (fun base w0 F hfr => ?_)
  refine Ex.regSeq (ExL.pures 1 rfl ?_)
  refine ExL.nil ?_
  refine Ex.drawSeqM rfl ?_
  refine ExD.take (i := 0) rfl (by kernel_rfl) (pureVal_ok rfl) ((List.Sublist.refl _)) rfl rfl rfl ?_
  refine ExD.take (i := 1) rfl (by kernel_rfl) (pureVal_ok rfl) ((List.Sublist.refl _)) rfl rfl rfl ?_
  refine ExD.take (i := 2) rfl (by kernel_rfl) (pureVal_ok rfl) ((List.Sublist.refl _)) rfl rfl rfl ?_
  refine ExD.take (i := 3) rfl (by kernel_rfl) (fr_load rfl rfl rfl rfl (CellO.blk (i := 0) rfl rfl)) ((List.Sublist.refl _)) rfl rfl rfl ?_
  refine ExD.take (i := 4) rfl (by kernel_rfl) (fr_sliceData_n rfl rfl) ((List.Sublist.refl _)) rfl rfl rfl ?_
  refine ExD.take (i := 5) rfl (by kernel_rfl) (pureVal_ok rfl) ((List.Sublist.refl _)) rfl rfl rfl ?_
  refine ExD.take (i := 6) rfl (by kernel_rfl) (pureVal_ok rfl) ((List.Sublist.refl _)) rfl rfl rfl ?_
  refine ExD.take (i := 7) rfl (by kernel_rfl) (pureVal_ok rfl) ((List.Sublist.refl _)) rfl rfl rfl ?_
  refine ExD.take (i := 8) rfl (by kernel_rfl) (fr_load rfl rfl rfl rfl (CellO.blk (i := 0) rfl rfl)) ((List.Sublist.refl _)) rfl rfl rfl ?_
  refine ExD.take (i := 9) rfl (by kernel_rfl) (pureVal_ok rfl) ((List.Sublist.refl _)) rfl rfl rfl ?_
  refine ExD.take (i := 10) rfl (by kernel_rfl) (fr_unsafeString_n rfl rfl rfl) ((List.Sublist.refl _)) rfl rfl rfl ?_
  refine ExD.take (i := 11) rfl (by kernel_rfl) (pureVal_ok rfl) ((List.Sublist.refl _)) rfl rfl rfl ?_
  refine ExD.done (by kernel_rfl) ?_
  refine Ex.ret ?_
  refine MutQ.mk () rfl (.tmp rfl .nil) (rfl) 1 [] (rfl) rfl (trivial)
theorem c_String_1 (b : Nat) (u : Bool) (xs : List UInt8) (A : Option Addr) (c : Nat) (h0 : 0 < xs.length) : Mut Tryz.prog 46 [.pointer (some ⟨b, 0, none⟩)] [.blk b [bp b u, .slice A xs.length c] 88, .row (.slice A xs.length c) 5 1 xs.length (xs.flatMap eU)] (fun base w0 F => True) (fun x : Unit => sv xs) (fun x => []) (fun x => True) := by
  refine Mut.of e_46 Tryz.func46 rfl Tryz.ntmps46 rfl rfl (fun base w0 F hfr => ?_)
  refine Ex.know (row_own (i := 1) rfl h0) (fun ⟨g, hg, hc0⟩ => ?_)
  subst hg
  refine Ex.regSeq (ExL.pures 1 rfl ?_)
  refine ExL.nil ?_
  refine Ex.drawSeqI [0] rfl rfl ?_
  refine ExD.take (i := 0) rfl (by kernel_rfl) (pureVal_ok rfl) ((List.Sublist.cons_cons _ (List.nil_sublist _))) rfl rfl rfl ?_
  refine ExD.take (i := 1) rfl (by kernel_rfl) (pureVal_ok rfl) ((List.Sublist.cons_cons _ (List.nil_sublist _))) rfl rfl rfl ?_
  refine ExD.take (i := 2) rfl (by kernel_rfl) (pureVal_ok rfl) ((List.Sublist.cons_cons _ (List.nil_sublist _))) rfl rfl rfl ?_
  refine ExD.take (i := 3) rfl (by kernel_rfl) (fr_load rfl rfl rfl rfl (CellO.blk (i := 0) rfl rfl)) ((List.Sublist.cons_cons _ (List.nil_sublist _))) rfl rfl rfl ?_
  refine ExD.take (i := 4) rfl (by kernel_rfl) (fr_sliceData rfl rfl hc0) ((List.Sublist.cons_cons _ (List.nil_sublist _))) rfl rfl rfl ?_
  refine ExD.take (i := 5) rfl (by kernel_rfl) (pureVal_ok rfl) ((List.Sublist.cons_cons _ (List.nil_sublist _))) rfl rfl rfl ?_
  refine ExD.take (i := 6) rfl (by kernel_rfl) (pureVal_ok rfl) ((List.Sublist.cons_cons _ (List.nil_sublist _))) rfl rfl rfl ?_
  refine ExD.take (i := 7) rfl (by kernel_rfl) (pureVal_ok rfl) ((List.Sublist.cons_cons _ (List.nil_sublist _))) rfl rfl rfl ?_
  refine ExD.take (i := 8) rfl (by kernel_rfl) (fr_load rfl rfl rfl rfl (CellO.blk (i := 0) rfl rfl)) ((List.Sublist.cons_cons _ (List.nil_sublist _))) rfl rfl rfl ?_
  refine ExD.take (i := 9) rfl (by kernel_rfl) (pureVal_ok rfl) ((List.Sublist.cons_cons _ (List.nil_sublist _))) rfl rfl rfl ?_
  refine ExD.op (i := 10) rfl (by kernel_rfl) rfl (op_unsafeString (i := 1) (l := xs) rfl rfl rfl rfl rfl rfl rfl rfl (by omega) rfl rfl ⟨(List.Sublist.cons_cons _ (List.nil_sublist _)), ?_⟩)
  refine ExD.take (i := 11) rfl (by kernel_rfl) (pureVal_ok rfl) ((List.Sublist.cons_cons _ (List.nil_sublist _))) rfl rfl rfl ?_
  refine ExD.done (by kernel_rfl) ?_
  refine Ex.ret ?_
  refine MutQ.mk () rfl (.tmp rfl .nil) (rfl) 1 [] (rfl) rfl (trivial)
theorem c_String (b : Nat) (u : Bool) (xs : List UInt8) (A : Option Addr) (c : Nat) (h0 : xs = [] → A = none ∧ c = 0) : Mut Tryz.prog 46 [.pointer (some ⟨b, 0, none⟩)] [.blk b [bp b u, .slice A xs.length c] 88, .row (.slice A xs.length c) 5 1 xs.length (xs.flatMap eU)] (fun _ _ _ => True) (fun _ : Unit => sv xs) (fun _ => []) (fun _ => True) := by
  rcases Nat.eq_zero_or_pos xs.length with h | h
  · obtain rfl := List.eq_nil_of_length_eq_zero h
    obtain ⟨rfl, rfl⟩ := h0 rfl
    exact ⟨(c_String_0 b u).1, fun base w0 F w hf hh => (c_String_0 b u).2 base w0 F w hf (hh.sub (by exact List.Sublist.cons_cons _ (List.Sublist.cons _ (List.Sublist.refl _))))⟩
  · exact c_String_1 b u xs A c h
end Go.Proofs.YtddflaaccmjoeaaGreatDoor

/- What these functions of the program hand back, each proved by walking its operations. -/
set_option linter.unusedVariables false
set_option linter.unusedSimpArgs false
set_option maxRecDepth 4000
namespace Go.Proofs.YtddflaaccmjoeaaGreatDoor
open Go Go.Sx Go.RowKit Go.W Go.Proofs
attribute [local irreducible] Ex ExL ExD Op1 Free RetQ MutQ Reads CellO SegO LoadsAs
theorem e_12 : Enters Tryz.prog 12 := Enters.of Tryz.func12 rfl
theorem c_iLogText (s : List Int) (hu : Nums 255 s) (As : Option Addr) (cs : Nat) (hls : s.length ≤ maxLen) (l : List VP) (Al : Option Addr) (cl : Nat) (hll : l.length ≤ maxLen) : Ret Tryz.prog 12 [.slice As s.length cs, .slice Al l.length cl] (fun w => Rd w As (s.flatMap (eI .u8)) ∧ Rd w Al (l.flatMap encP) ∧ TabO Tryz.prog w) (fun x : Unit => sv (logTx s l)) (fun x => []) (fun x => True) := by
  refine Ret.of e_12 Tryz.func12 rfl Tryz.ntmps12 rfl rfl (fun w hpre => ?_)
  have hs := hpre.1.base
  have hl := hpre.2.1.base
  have htab := hpre.2.2
  have hm0 : maxLen = 9223372036854775807 := rfl
  refine Ex.regSeq (ExL.pures 1 rfl ?_)
  refine ExL.nil ?_
  refine Ex.seq ?_
  refine Ex.regSeq (ExL.pures 2 rfl ?_)
  refine ExL.op rfl (op_ret rfl rfl rfl (c_ValidLog s (by assumption) _ _ (by omega) l _ _ (by omega)) (fun w hw => ⟨Reads.get (Reads.old hs) w hw, Reads.get (Reads.old hl) w hw⟩) rfl rfl (fun x1 hx1 => ?_))
  refine ExL.pures 1 rfl ?_
  refine ExL.nil ?_
  refine Ex.cond rfl (fun hb2 => ?_) (fun hb2 => ?_)
  · replace hb2 := nb_t hb2
    refine Ex.regSeq (ExL.pures 1 rfl ?_)
    refine ExL.nil ?_
    refine Ex.ret ?_
    refine RetQ.mk () rfl (.tmp rfl .nil) (tS (by first | exact (logTx_f (by assumption)).symm | exact hlast)) [] (rfl) rfl (trivial)
  · replace hb2 := nb_f hb2
    refine Ex.skip ?_
    refine Ex.regSeq (ExL.pures 0 rfl ?_)
    refine ExL.free (fr_build rfl rfl rfl rfl) rfl rfl rfl ?_
    refine ExL.op rfl (op_alloc rfl rfl rfl rfl rfl (fun b3 => ?_))
    refine ExL.op rfl (op_storeC (i := 0) rfl rfl rfl rfl rfl rfl rfl rfl rfl rfl ?_)
    refine ExL.nil ?_
    refine Ex.seq ?_
    have hvl : validLog s l = true := by assumption
    have hL := log hvl
    have hLl := hL.len
    have hvs := hL.stk
    have hS := stk hvs
    have hS1 := hS.le
    have hS3 := hS.pos
    have hS4 := hS.size_
    have hda : ∀ i, i < l.length → -9223372036854775808 ≤ (l.getD i zP).a ∧ (l.getD i zP).a ≤ 9223372036854775807 := fun i hi => by have := hL.day i hi; omega
    refine Ex.nilRow 5 1 ?_
    refine Ex.regSeq (ExL.pures 3 rfl ?_)
    refine ExL.nil ?_
    refine Ex.block ?_
    refine Ex.loopK (X := BdS) (fun q => [(15, .int .i64 q.k)]) (fun q => [.blk b3 [bp b3 q.u, .slice q.A (lText s l q.k).length q.c] 88, .row (.slice q.A (lText s l q.k).length q.c) 5 1 (lText s l q.k).length ((lText s l q.k).flatMap eU)]) (fun q => q.k ≤ l.length ∧ (lText s l q.k = [] → q.A = none ∧ q.c = 0)) (fun q => l.length - q.k) (⟨0, false, none, 0⟩ : BdS) [(0, _), (4, _), (5, _), (13, _), (14, _)] [] 2 [1, 0] ⟨rfl, trivial⟩ ⟨rfl, rfl, rfl, rfl, rfl, trivial⟩ (rfl) rfl ⟨Nat.zero_le _, fun _ => ⟨rfl, rfl⟩⟩ (fun q hI => ?_)
    have hI : q.k ≤ l.length ∧ (lText s l q.k = [] → q.A = none ∧ q.c = 0) := hI
    obtain ⟨hkq, hnil⟩ := hI
    refine Ex.regSeq (ExL.pures 0 rfl ?_)
    refine ExL.lss rfl rfl rfl rfl rfl rfl (fun h4 => ?_) (fun h4 => ?_)
    · refine ExL.nil ?_
      refine Ex.seq ?_
      refine Ex.cond_t rfl ?_
      refine Ex.skip ?_
      refine Ex.seq ?_
      refine Ex.block ?_
      have hkl : q.k < l.length := by omega
      have hv1 := hL.val q.k hkl
      have hd1 := hL.day q.k hkl
      have hn9 : Nums 255 (dig (digs s (l.getD q.k zP).b)).l := dsv_num hS _
      have hvd9 : validDig s (dig (digs s (l.getD q.k zP).b)).l = true := dsv_valid hS _
      have htx9 : digTx s (dig (digs s (l.getD q.k zP).b)).l = digT s (dsv s (l.getD q.k zP).b) := dsv_tx hvs _
      have hdl := dsv_le hvs (l.getD q.k zP).b
      have hdl2 : (digT s (dig (digs s (l.getD q.k zP).b)).l).length ≤ 24 := hdl
      have hdl3 : (digTx s (dig (digs s (l.getD q.k zP).b)).l).length ≤ 24 := by rw [htx9]; exact hdl
      have hi1 := itoa_le (n := (l.getD q.k zP).a) (by omega)
      have htx := lText_le (l := l) hvs (by omega) hda (k := q.k) (by omega)
      refine Ex.regSeq (ExL.pures 0 rfl ?_)
      refine ExL.free (fr_indexAddrF (Reads.old hl) encP_len rfl rfl rfl rfl rfl rfl (by omega)) rfl rfl rfl ?_
      refine ExL.free (fr_loadN rfl rfl rfl rfl rfl (by first | exact segN (Reads.old hl) encP_len rfl zP (by omega) | exact segF (Reads.old hl) encP_len rfl zP (by omega))) rfl rfl rfl ?_
      refine ExL.op rfl (op_alloc rfl rfl rfl rfl rfl (fun b5 => ?_))
      refine ExL.op rfl (op_storeC (i := 0) rfl rfl rfl rfl rfl rfl rfl rfl rfl rfl ?_)
      refine ExL.nil ?_
      refine Ex.drawI [0] rfl rfl ?_
      refine ExD.take (i := 0) rfl (by kernel_rfl) (pureVal_ok rfl) ((List.Sublist.cons_cons _ (List.nil_sublist _))) rfl rfl rfl ?_
      refine ExD.take (i := 1) rfl (by kernel_rfl) (fr_load rfl rfl rfl rfl (CellO.blk (i := 0) rfl rfl)) ((List.Sublist.cons_cons _ (List.nil_sublist _))) rfl rfl rfl ?_
      refine ExD.take (i := 4) rfl (by kernel_rfl) (pureVal_ok rfl) ((List.Sublist.cons_cons _ (List.nil_sublist _))) rfl rfl rfl ?_
      refine ExD.take (i := 5) rfl (by kernel_rfl) (pureVal_ok rfl) ((List.Sublist.cons_cons _ (List.nil_sublist _))) rfl rfl rfl ?_
      refine ExD.take (i := 6) rfl (by kernel_rfl) (pureVal_ok rfl) ((List.Sublist.cons_cons _ (List.nil_sublist _))) rfl rfl rfl ?_
      refine ExD.take (i := 7) rfl (by kernel_rfl) (fr_load rfl rfl rfl rfl (CellO.blk (i := 0) rfl rfl)) ((List.Sublist.cons_cons _ (List.nil_sublist _))) rfl rfl rfl ?_
      refine ExD.op (i := 2) rfl (by kernel_rfl) rfl (op_ret rfl rfl rfl (c_decimal (l.getD q.k zP).a (by omega)) (fun w hw => TabO.keep htab hw) rfl rfl (fun x6 hx6 => ⟨(List.Sublist.cons_cons _ (List.nil_sublist _)), ?_⟩))
      refine ExD.take (i := 3) rfl (by kernel_rfl) (fr_addS (l := Lib.itoa ((l.getD q.k zP).a)) (r := [32]) rfl rfl rfl (by first | omega | (simp only [List.length_append, List.length_cons, List.length_nil]; omega))) ((List.Sublist.cons_cons _ (List.nil_sublist _))) rfl rfl rfl ?_
      refine ExD.op (i := 8) rfl (by kernel_rfl) rfl (op_ret rfl rfl rfl (c_digits s (by first | assumption | simp_all) _ _ _ (by omega)) (Reads.get (Reads.old hs)) rfl rfl (fun x7 hx7 => ⟨(List.Sublist.cons_cons _ (List.nil_sublist _)), ?_⟩))
      refine ExD.op (i := 9) rfl (by kernel_rfl) rfl (op_ret rfl rfl rfl (c_text s (by first | assumption | simp_all) _ _ (dig (digs s (l.getD q.k zP).b)) (by assumption) (by first | assumption | simp_all)) (fun w hw => ⟨Reads.get (Reads.old hs) w hw, TabO.keep htab hw⟩) rfl rfl (fun x8 hx8 => ⟨(List.Sublist.cons_cons _ (List.nil_sublist _)), ?_⟩))
      refine ExD.take (i := 10) rfl (by kernel_rfl) (fr_addS (l := (Lib.itoa ((l.getD q.k zP).a) ++ [32])) (r := (digT s (dig (digs s (l.getD q.k zP).b)).l)) rfl rfl rfl (by first | omega | (simp only [List.length_append, List.length_cons, List.length_nil]; omega))) ((List.Sublist.cons_cons _ (List.nil_sublist _))) rfl rfl rfl ?_
      refine ExD.take (i := 11) rfl (by kernel_rfl) (fr_addS (l := ((Lib.itoa ((l.getD q.k zP).a) ++ [32]) ++ (digT s (dig (digs s (l.getD q.k zP).b)).l))) (r := [10]) rfl rfl rfl (by first | omega | (simp only [List.length_append, List.length_cons, List.length_nil]; omega))) ((List.Sublist.cons_cons _ (List.nil_sublist _))) rfl rfl rfl ?_
      refine ExD.op (i := 12) rfl (by kernel_rfl) rfl (op_mut rfl rfl rfl (c_WriteString b3 q.u (lText s l q.k) _ _ (((Lib.itoa ((l.getD q.k zP).a) ++ [32]) ++ (digT s (dig (digs s (l.getD q.k zP).b)).l)) ++ [10]) (by first | omega | (simp only [List.length_append, List.length_cons, List.length_nil]; omega))) (perm_lt (i := 1) (j := 2) rfl rfl rfl) (trivial) rfl rfl (fun x9 hx9 => ⟨(List.Sublist.cons _ (List.Sublist.cons _ (List.Sublist.refl _))), ?_⟩))
      refine ExD.done (by kernel_rfl) ?_
      refine Ex.region (ExL.pures 0 rfl ?_)
      refine ExL.free (by first | exact fr_add64 rfl rfl rfl (by omega) | exact fr_add rfl rfl rfl) rfl rfl rfl ?_
      refine ExL.pures 1 rfl ?_
      refine ExL.nil ?_
      refine Hand.mk (⟨q.k + 1, true, x9.1, x9.2⟩ : BdS) 3 [0, 1] ⟨rfl, trivial⟩ ⟨rfl, rfl, rfl, rfl, rfl, trivial⟩ (rfl) rfl (⟨by dsimp only; omega, fun h => absurd h (lText_pos (k := q.k + 1) (by omega))⟩) (by dsimp only; omega)
    · refine ExL.nil ?_
      refine Ex.seq ?_
      refine Ex.cond_f rfl ?_
      refine Ex.exit ?_
      have hkn : q.k = l.length := by omega
      have hlast : lText s l q.k = logTx s l := by rw [hkn]; exact (logTx_t (by assumption)).symm
      refine Ex.regSeq (ExL.pures 0 rfl ?_)
      refine ExL.op rfl (op_mut rfl rfl rfl (c_String b3 q.u (lText s l q.k) _ _ (by assumption)) (perm_lt (i := 0) (j := 1) rfl rfl rfl) (trivial) rfl rfl (fun x10 hx10 => ?_))
      refine ExL.pures 1 rfl ?_
      refine ExL.nil ?_
      refine Ex.ret ?_
      refine RetQ.mk () rfl (.tmp rfl .nil) (tS (by first | exact (logTx_f (by assumption)).symm | exact hlast)) [] (rfl) rfl (trivial)
end Go.Proofs.YtddflaaccmjoeaaGreatDoor

/- What these functions of the program hand back, each proved by walking its operations. -/
set_option linter.unusedVariables false
set_option linter.unusedSimpArgs false
set_option maxRecDepth 4000
namespace Go.Proofs.YtddflaaccmjoeaaGreatDoor
open Go Go.Sx Go.RowKit Go.W Go.Proofs
attribute [local irreducible] Ex ExL ExD Op1 Free RetQ MutQ Reads CellO SegO LoadsAs
theorem e_11 : Enters Tryz.prog 11 := Enters.of Tryz.func11 rfl
set_option maxHeartbeats 1000000 in
theorem c_iReadLog (s : List Int) (hu : Nums 255 s) (As : Option Addr) (cs : Nat) (hls : s.length ≤ maxLen) (t : List UInt8) (hl : t.length ≤ 1048576) : Ret Tryz.prog 11 [.slice As s.length cs, sv t] (fun w => Rd w As (s.flatMap (eI .u8)) ∧ RdO 0 1 2 w ∧ TabO Tryz.prog w) (fun x : RdS VP => .tuple #[.slice x.A x.l.length x.cap, .int .i64 x.code]) (fun x => [.row (.slice x.A x.l.length x.cap) 85 2 x.l.length (x.l.flatMap encP)]) (fun x => RdLog s t x) := by
  refine Ret.of e_11 Tryz.func11 rfl Tryz.ntmps11 rfl rfl (fun w hpre => ?_)
  have hs := hpre.1.base
  have hrd := hpre.2.1
  have htab := hpre.2.2
  have hpp := splitA_pos 10 t
  have hpn := splitA_len 10 t []
  have hm0 : maxLen = 9223372036854775807 := rfl
  refine Ex.regSeq (ExL.pures 2 rfl ?_)
  refine ExL.nil ?_
  refine Ex.seq ?_
  refine Ex.regSeq (ExL.pures 1 rfl ?_)
  refine ExL.op rfl (op_ret rfl rfl rfl (c_ValidStack _ (by assumption) _ _ (by first | assumption | omega | (unfold maxLen; omega))) (Reads.get (Reads.old hs)) rfl rfl (fun x1 hx1 => ?_))
  refine ExL.pures 1 rfl ?_
  refine ExL.nil ?_
  refine Ex.cond rfl (fun hb2 => ?_) (fun hb2 => ?_)
  · replace hb2 := nb_t hb2
    refine Ex.regSeq (ExL.pures 2 rfl ?_)
    refine ExL.nil ?_
    refine Ex.nilRow 85 2 ?_
    refine Ex.ret ?_
    refine RetQ.mk ⟨[], 1, none, 0⟩ rfl (.tmp rfl (.tmp rfl .nil)) (rfl) [0] (rfl) rfl (rdLog_v (by assumption))
  · replace hb2 := nb_f hb2
    refine Ex.skip ?_
    have hv := (by assumption : validStack s = true)
    have hS := stk hv
    have h8 := hS.len8
    refine Ex.regSeq (ExL.pures 1 rfl ?_)
    refine ExL.op rfl (op_ret rfl rfl rfl (c_linesOf t (by omega)) (fun w hw => RdO.keep hrd hw) rfl rfl (fun x3 hx3 => ?_))
    refine ExL.pures 5 rfl ?_
    refine ExL.nil ?_
    refine Ex.seq ?_
    refine Ex.regSeq (ExL.pures 3 rfl ?_)
    refine ExL.bool (d := 28) rfl (fun hb4 => ?_) (fun hb4 => ?_)
    · replace hb4 := nd_t hb4
      refine ExL.pures 4 rfl ?_
      refine ExL.nil ?_
      refine Ex.cond_t rfl ?_
      refine Ex.regSeq (ExL.pures 2 rfl ?_)
      refine ExL.nil ?_
      refine Ex.nilRow 85 2 ?_
      refine Ex.ret ?_
      refine RetQ.mk ⟨[], 5, none, 0⟩ rfl (.tmp rfl (.tmp rfl .nil)) (rfl) [0] (rfl) rfl (rdLog_no hv (by first | exact nl_open (n := (splitA 10 [] t).length - 1) (by omega) (by assumption) | exact nl_40 (by omega)))
    · replace hb4 := nd_f hb4
      refine ExL.pures 2 rfl ?_
      refine ExL.gtr rfl rfl rfl rfl rfl rfl (fun h5 => ?_) (fun h5 => ?_)
      · refine ExL.pures 1 rfl ?_
        refine ExL.nil ?_
        refine Ex.cond_t rfl ?_
        refine Ex.regSeq (ExL.pures 2 rfl ?_)
        refine ExL.nil ?_
        refine Ex.nilRow 85 2 ?_
        refine Ex.ret ?_
        refine RetQ.mk ⟨[], 5, none, 0⟩ rfl (.tmp rfl (.tmp rfl .nil)) (rfl) [0] (rfl) rfl (rdLog_no hv (by first | exact nl_open (n := (splitA 10 [] t).length - 1) (by omega) (by assumption) | exact nl_40 (by omega)))
      · refine ExL.pures 1 rfl ?_
        refine ExL.nil ?_
        refine Ex.cond_f rfl ?_
        refine Ex.skip ?_
        refine Ex.regSeq (ExL.pures 0 rfl ?_)
        refine ExL.op rfl (op_buildSlice (sz := 2) rfl rfl rfl rfl rfl rfl rfl rfl (by decide) rfl rfl rfl (fun r6 => ?_))
        refine ExL.pures 1 rfl ?_
        refine ExL.nil ?_
        refine Ex.seq ?_
        refine Ex.regSeq (ExL.pures 3 rfl ?_)
        refine ExL.nil ?_
        refine Ex.block ?_
        refine Ex.loopK (X := TtS VP) (fun q => [(8, .slice q.A q.l.length q.cap), (36, .int .i64 q.k)]) (fun q => [.row (.slice q.A q.l.length q.cap) 85 2 q.l.length (q.l.flatMap encP)]) (fun q => q.k + 1 ≤ (splitA 10 [] t).length ∧ q.l.length = q.k ∧ ReadsTo s t q.l ∧ ∀ i, i < q.l.length → 0 ≤ (q.l.getD i zP).b ∧ (q.l.getD i zP).b < prod s) (fun q => (splitA 10 [] t).length - q.k) (⟨0, [], true, (some ⟨r6, 0, none⟩), 0⟩ : TtS VP) [(0, _), (1, _), (34, _), (35, _)] [_] 2 [0, 1] ⟨rfl, rfl, trivial⟩ ⟨rfl, rfl, rfl, rfl, trivial⟩ (rfl) rfl ⟨hpp, rfl, ReadsTo.nil s t, fun i hi => by simp at hi⟩ (fun q hI => ?_)
        have hI : q.k + 1 ≤ (splitA 10 [] t).length ∧ q.l.length = q.k ∧ ReadsTo s t q.l ∧ ∀ i, i < q.l.length → 0 ≤ (q.l.getD i zP).b ∧ (q.l.getD i zP).b < prod s := hI
        obtain ⟨hqk, hql, hqr, hqb⟩ := hI
        refine Ex.regSeq (ExL.pures 0 rfl ?_)
        refine ExL.lss rfl rfl rfl rfl rfl rfl (fun h7 => ?_) (fun h7 => ?_)
        · refine ExL.nil ?_
          refine Ex.seq ?_
          refine Ex.cond_t rfl ?_
          refine Ex.skip ?_
          refine Ex.seq ?_
          refine Ex.block ?_
          have hpl := piece_le 10 t q.k
          have hcl := cut_le ((splitA 10 [] t).getD q.k []) 32
          have hcl1 := hcl.1
          have hcl2 := hcl.2
          refine Ex.regSeq (ExL.pures 0 rfl ?_)
          refine ExL.free (fr_indexAddr (sz := 1) rfl rfl rfl rfl rfl rfl (by omega)) rfl rfl rfl ?_
          refine ExL.free (fr_load rfl rfl rfl rfl (by first | exact cellN (Reads.row (i := 1) rfl) eSt_len ([] : List UInt8) 0 rfl (by omega) rfl | exact cellF (Reads.row (i := 1) rfl) eSt_len ([] : List UInt8) 0 rfl (by omega) rfl)) rfl rfl rfl ?_
          refine ExL.pures 1 rfl ?_
          refine ExL.nil ?_
          refine Ex.regSeq (ExL.pures 1 rfl ?_)
          refine ExL.op rfl (op_ret rfl rfl rfl (c_Cut ((splitA 10 [] t).getD q.k []) 32 (by omega)) (fun w hw => RdO.keep hrd hw) rfl rfl (fun x8 hx8 => ?_))
          refine ExL.pures 7 rfl ?_
          refine ExL.nil ?_
          refine Ex.regSeq (ExL.pures 1 rfl ?_)
          refine ExL.op rfl (op_ret rfl rfl rfl (c_readDecimal (Lib.cut ((splitA 10 [] t).getD q.k []) [32]).1 (by omega)) (fun w hw => ⟨RdO.keep hrd hw, TabO.keep htab hw⟩) rfl rfl (fun x9 hx9 => ?_))
          have hbx9 : -9223372036854775808 ≤ x9.1 ∧ x9.1 ≤ 9223372036854775807 := hx9.1
          refine ExL.pures 5 rfl ?_
          refine ExL.nil ?_
          refine Ex.regSeq (ExL.pures 2 rfl ?_)
          refine ExL.op rfl (op_ret rfl rfl rfl (c_iReadDigits s (by assumption) _ _ (by omega) (Lib.cut ((splitA 10 [] t).getD q.k []) [32]).2.1 (by omega)) (fun w hw => ⟨Reads.get (Reads.old hs) w hw, RdO.keep hrd hw, TabO.keep htab hw⟩) rfl rfl (fun x10 hx10 => ?_))
          refine ExL.pures 3 rfl ?_
          refine ExL.op rfl (op_alloc rfl rfl rfl rfl rfl (fun b11 => ?_))
          refine ExL.op rfl (op_storeC (i := 0) rfl rfl rfl rfl rfl rfl rfl rfl rfl rfl ?_)
          refine ExL.pures 1 rfl ?_
          refine ExL.nil ?_
          refine Ex.seq ?_
          refine Ex.regSeq (ExL.pures 3 rfl ?_)
          refine ExL.bool (d := 59) rfl (fun hb12 => ?_) (fun hb12 => ?_)
          · replace hb12 := nb_t hb12
            refine ExL.pures 3 rfl ?_
            refine ExL.nil ?_
            refine Ex.cond_t rfl ?_
            refine Ex.regSeq (ExL.pures 2 rfl ?_)
            refine ExL.nil ?_
            refine Ex.nilRow 85 2 ?_
            refine Ex.ret ?_
            refine RetQ.mk ⟨[], 5, none, 0⟩ rfl (.tmp rfl (.tmp rfl .nil)) (rfl) [0] (rfl) rfl (rdLog_no hv (nl_i (k := q.k) (by omega) hx9 hx10 (by rintro ⟨h1, h2⟩; first | omega | simp_all)))
          · replace hb12 := nb_f hb12
            refine ExL.pures 1 rfl ?_
            refine ExL.neq rfl rfl rfl rfl rfl rfl (fun h13 => ?_) (fun h13 => ?_)
            · refine ExL.pures 1 rfl ?_
              refine ExL.nil ?_
              refine Ex.cond_t rfl ?_
              refine Ex.regSeq (ExL.pures 2 rfl ?_)
              refine ExL.nil ?_
              refine Ex.nilRow 85 2 ?_
              refine Ex.ret ?_
              refine RetQ.mk ⟨[], 5, none, 0⟩ rfl (.tmp rfl (.tmp rfl .nil)) (rfl) [0] (rfl) rfl (rdLog_no hv (nl_i (k := q.k) (by omega) hx9 hx10 (by rintro ⟨h1, h2⟩; first | omega | simp_all)))
            · refine ExL.pures 1 rfl ?_
              refine ExL.nil ?_
              refine Ex.cond_f rfl ?_
              refine Ex.skip ?_
              have hvd := (rdDig_ok hv hx10 (by omega)).1
              have hnd := rdDig_num hx10
              have hbv := rd_val hv hx10 (by omega)
              refine Ex.region (ExL.pures 3 rfl ?_)
              refine ExL.free (fr_loadN rfl rfl rfl rfl rfl (SegO.whole (i := 0) rfl)) rfl rfl rfl ?_
              refine ExL.op rfl (op_ret rfl rfl rfl (c_value s (by first | assumption | simp_all) _ _ x10.1 (by assumption) (by first | assumption | simp_all)) (Reads.get (Reads.old hs)) rfl rfl (fun x14 hx14 => ?_))
              refine ExL.free (fr_build rfl rfl rfl rfl) rfl rfl rfl ?_
              refine ExL.op rfl (op_buildSlice (sz := 2) rfl rfl rfl rfl rfl rfl rfl rfl (by decide) rfl rfl rfl (fun r15 => ?_))
              refine ExL.op rfl (op_append (sz := 2) (bytes := 16) (i := 2) rfl rfl rfl rfl (Reads.row (i := 0) rfl) rfl (fun e => nomatch e) rfl rfl rfl rfl (by constructor <;> first | omega | (unfold maxLen; omega)) rfl rfl (fun A16 cA16 => ?_))
              refine ExL.pures 1 rfl ?_
              refine ExL.nil ?_
              refine Ex.region (ExL.pures 0 rfl ?_)
              refine ExL.free (by first | exact fr_add64 rfl rfl rfl (by omega) | exact fr_add rfl rfl rfl) rfl rfl rfl ?_
              refine ExL.pures 1 rfl ?_
              refine ExL.nil ?_
              refine Hand.mk (⟨q.k + 1, q.l ++ [⟨x9.1, val s x10.1.l⟩], true, A16, cA16⟩ : TtS VP) 4 [2, 3] ⟨(by rw [List.length_append]; rfl), rfl, trivial⟩ ⟨rfl, rfl, rfl, rfl, trivial⟩ (by rw [List.length_append, List.flatMap_append]; rfl) rfl (⟨by dsimp only; omega, by rw [List.length_append, hql]; rfl, hqr.snoc hx9.1 (by rw [hql]; exact line_rd hv (cut_join (rdDig_ok hv hx10 (by omega)).2) (hx9.2.1 (by assumption)) hx10 (by omega)), bd_snoc hqb hbv⟩) (by dsimp only; omega)
        · refine ExL.nil ?_
          refine Ex.seq ?_
          refine Ex.cond_f rfl ?_
          refine Ex.exit ?_
          refine Ex.seq ?_
          refine Ex.regSeq (ExL.pures 2 rfl ?_)
          refine ExL.op rfl (op_ret rfl rfl rfl (c_ValidLog s (by assumption) _ _ (by omega) q.l _ _ (by omega)) (fun w hw => ⟨Reads.get (Reads.old hs) w hw, Reads.get (Reads.row (i := 0) rfl) w hw⟩) rfl rfl (fun x18 hx18 => ?_))
          refine ExL.pures 2 rfl ?_
          refine ExL.bool (d := 76) rfl (fun hb19 => ?_) (fun hb19 => ?_)
          · replace hb19 := nb_t hb19
            refine ExL.pures 6 rfl ?_
            refine ExL.nil ?_
            refine Ex.cond_t rfl ?_
            refine Ex.regSeq (ExL.pures 2 rfl ?_)
            refine ExL.nil ?_
            refine Ex.nilRow 85 2 ?_
            refine Ex.ret ?_
            refine RetQ.mk ⟨[], 5, none, 0⟩ rfl (.tmp rfl (.tmp rfl .nil)) (rfl) [0] (rfl) rfl (rdLog_no hv (nl_bad hv hqr (by omega) hqb (fun hvl => by first | (have h9 := (by assumption : validLog s q.l = false); rw [h9] at hvl; cases hvl) | (have h9 := (by assumption : ¬ logTx s q.l = t); rw [logTx_t hvl] at h9; exact h9 (reads_text hqr (by omega) (by rw [hql, show q.k = (splitA 10 [] t).length - 1 by omega]; assumption))))))
          · replace hb19 := nb_f hb19
            refine ExL.pures 2 rfl ?_
            refine ExL.op rfl (op_ret rfl rfl rfl (c_iLogText s (by assumption) _ _ (by omega) q.l _ _ (by omega)) (fun w hw => ⟨Reads.get (Reads.old hs) w hw, Reads.get (Reads.row (i := 0) rfl) w hw, TabO.keep htab hw⟩) rfl rfl (fun x20 hx20 => ?_))
            refine ExL.pures 1 rfl ?_
            refine ExL.free (fr_neqS (l := (logTx s q.l)) (r := t) rfl rfl rfl) rfl rfl rfl ?_
            refine ExL.pures 1 rfl ?_
            refine ExL.nil ?_
            refine Ex.cond rfl (fun hb21 => ?_) (fun hb21 => ?_)
            · replace hb21 := nd_t hb21
              refine Ex.regSeq (ExL.pures 2 rfl ?_)
              refine ExL.nil ?_
              refine Ex.nilRow 85 2 ?_
              refine Ex.ret ?_
              refine RetQ.mk ⟨[], 5, none, 0⟩ rfl (.tmp rfl (.tmp rfl .nil)) (rfl) [0] (rfl) rfl (rdLog_no hv (nl_bad hv hqr (by omega) hqb (fun hvl => by first | (have h9 := (by assumption : validLog s q.l = false); rw [h9] at hvl; cases hvl) | (have h9 := (by assumption : ¬ logTx s q.l = t); rw [logTx_t hvl] at h9; exact h9 (reads_text hqr (by omega) (by rw [hql, show q.k = (splitA 10 [] t).length - 1 by omega]; assumption))))))
            · replace hb21 := nd_f hb21
              refine Ex.skip ?_
              refine Ex.regSeq (ExL.pures 3 rfl ?_)
              refine ExL.nil ?_
              refine Ex.ret ?_
              refine RetQ.mk ⟨q.l, 0, q.A, q.cap⟩ rfl (.tmp rfl (.tmp rfl .nil)) (rfl) [0] (rfl) rfl (rdLog_s hv hqr (by omega) (by rw [hql, show q.k = (splitA 10 [] t).length - 1 by omega]; assumption) (by assumption))
end Go.Proofs.YtddflaaccmjoeaaGreatDoor

/- What these functions of the program hand back, each proved by walking its operations. -/
set_option linter.unusedVariables false
set_option linter.unusedSimpArgs false
set_option maxRecDepth 4000
namespace Go.Proofs.YtddflaaccmjoeaaGreatDoor
open Go Go.Sx Go.RowKit Go.W Go.Proofs
attribute [local irreducible] Ex ExL ExD Op1 Free RetQ MutQ Reads CellO SegO LoadsAs
theorem e_3 : Enters Tryz.prog 3 := Enters.of Tryz.func3 rfl
set_option maxHeartbeats 2000000 in
theorem w_FnStories (s : List Int) (hus : Nums 255 s) (As : Option Addr) (cs : Nat) (hls : s.length ≤ maxLen) (t : List Int) (hut : Nums 255 t) (At : Option Addr) (ct : Nat) (hlt : t.length ≤ maxLen) : Ret Tryz.prog 3 [.slice As s.length cs, .slice At t.length ct] (fun w => (Rd w As (s.flatMap (eI .u8)) ∧ Rd w At (t.flatMap (eI .u8))) ∧ RdO 0 1 2 w ∧ TabO Tryz.prog w) (fun x : Unit => .bool true) (fun x => []) (fun x => True) := by
  refine Ret.of e_3 Tryz.func3 rfl Tryz.ntmps3 rfl rfl (fun w hpre => ?_)
  have hs := hpre.1.1.base
  have ht := hpre.1.2.base
  have hrd := hpre.2.1
  have htab := hpre.2.2
  have hm0 : maxLen = 9223372036854775807 := rfl
  refine Ex.regSeq (ExL.pures 1 rfl ?_)
  refine ExL.nil ?_
  refine Ex.seq ?_
  refine Ex.regSeq (ExL.pures 2 rfl ?_)
  refine ExL.op rfl (op_ret rfl rfl rfl (c_a2Long s _ _ (by omega) t _ _ (by omega)) (fun _ _ => trivial) rfl rfl (fun x1 hx1 => ?_))
  refine ExL.nil ?_
  refine Ex.cond rfl (fun hb2 => ?_) (fun hb2 => ?_)
  · replace hb2 := of_decide_eq_true hb2
    refine Ex.regSeq (ExL.pures 1 rfl ?_)
    refine ExL.nil ?_
    refine Ex.ret ?_
    refine RetQ.mk () rfl (.tmp rfl .nil) (tB (by first | rfl | exact absurd rfl (by assumption) | exact absurd (hvl.symm.trans (by assumption)) (by decide) | exact absurd (hvf.symm.trans (by assumption)) (by decide) | exact absurd (by assumption) (hwn (by assumption)))) [] (rfl) rfl (trivial)
  · replace hb2 := of_decide_eq_false hb2
    refine Ex.skip ?_
    refine Ex.regSeq (ExL.pures 1 rfl ?_)
    refine ExL.op rfl (op_ret rfl rfl rfl (c_A2Log s _ _ (by omega) (by assumption)) (Reads.get (Reads.old hs)) rfl rfl (fun x3 hx3 => ?_))
    obtain ⟨⟨hgvx3, hgnx3, hglx3, hgzx3, hgox3, hgkx3⟩, hgfx3⟩ := hx3
    refine ExL.pures 4 rfl ?_
    refine ExL.op rfl (op_alloc rfl rfl rfl rfl rfl (fun b4 => ?_))
    refine ExL.pures 2 rfl ?_
    refine ExL.op rfl (op_storeC (i := 0) rfl rfl rfl rfl rfl rfl rfl rfl rfl rfl ?_)
    refine ExL.nil ?_
    have hvs := hgvx3
    have hgs := hgnx3
    have hgz9 := hgzx3
    have hvl := hgox3
    have hlk9 := hgkx3
    have hvf := hgfx3
    have hls9 := hglx3
    have hask := ask_tt (s := x3.1.2) (l := x3.2.1.2) (f := x3.2.2) hvl hvf
    have hst := sto_0 hask
    have hst1 := congrArg Prod.fst hst
    have hst2 := congrArg Prod.snd hst
    dsimp only at hst1 hst2
    obtain ⟨hL, hf⟩ := ask_of hask
    have hkln := stK_len (fitsF x3.1.2 x3.2.1.2 x3.2.2) x3.2.1.2.length
    have hbln := stB_len (fitsF x3.1.2 x3.2.1.2 x3.2.2) x3.2.1.2.length
    have hek : (stV (fitsF x3.1.2 x3.2.1.2 x3.2.2) x3.2.1.2.length).kept.length = (stK (fitsF x3.1.2 x3.2.1.2 x3.2.2) x3.2.1.2.length).length := rfl
    have heb : (stV (fitsF x3.1.2 x3.2.1.2 x3.2.2) x3.2.1.2.length).breaks.length = (stB (fitsF x3.1.2 x3.2.1.2 x3.2.2) x3.2.1.2.length).length := rfl
    have hec : (stV (fitsF x3.1.2 x3.2.1.2 x3.2.2) x3.2.1.2.length).cost = (bstV (fitsF x3.1.2 x3.2.1.2 x3.2.2) x3.2.1.2.length x3.2.1.2.length).cost := rfl
    have hSu := susl (fit := (fitsF x3.1.2 x3.2.1.2 x3.2.2)) (n := x3.2.1.2.length)
    have hcbd := bst_bd (fit := (fitsF x3.1.2 x3.2.1.2 x3.2.2)) (n := x3.2.1.2.length) x3.2.1.2.length (Nat.le_refl _)
    have hsn := sus_len (fitsF x3.1.2 x3.2.1.2 x3.2.2) (x3.2.1.2.length - 1)
    have hsu1 := hSu.hi
    have hsu2 := hSu.lo
    have hsu3 : (stV (fitsF x3.1.2 x3.2.1.2 x3.2.2) x3.2.1.2.length).cost ≤ 2 * ((susL (fitsF x3.1.2 x3.2.1.2 x3.2.2) (x3.2.1.2.length - 1)).length : Int) := hsu1
    have hsu4 : 0 ≤ (stV (fitsF x3.1.2 x3.2.1.2 x3.2.2) x3.2.1.2.length).cost := hsu2
    have hsu5 : (susL (fitsF x3.1.2 x3.2.1.2 x3.2.2) (x3.2.1.2.length - 1)).length = 0 → (stV (fitsF x3.1.2 x3.2.1.2 x3.2.2) x3.2.1.2.length).kept.length = x3.2.1.2.length := hSu.all
    have hsu6 : (stV (fitsF x3.1.2 x3.2.1.2 x3.2.2) x3.2.1.2.length).cost = 0 → (susL (fitsF x3.1.2 x3.2.1.2 x3.2.2) (x3.2.1.2.length - 1)).length = 0 := hSu.none_
    have hsb : decide (((susL (fitsF x3.1.2 x3.2.1.2 x3.2.2) (x3.2.1.2.length - 1)).length : Int) = 0) = decide ((stV (fitsF x3.1.2 x3.2.1.2 x3.2.2) x3.2.1.2.length).cost = 0) := decide_eq_decide.2 ⟨fun h9 => by omega, fun h9 => by have := hsu6 h9; omega⟩
    have htold := told_t.2 (told_due (fit := (fitsF x3.1.2 x3.2.1.2 x3.2.2)) (n := x3.2.1.2.length))
    have hsr := su_0 (s := x3.1.2) (l := x3.2.1.2) (f := x3.2.2) hask rfl
    have hsr2 : (sureV x3.1.2 x3.2.1.2 x3.2.2).2 = 0 := by rw [hsr]
    have hsl9 := su_len (s := x3.1.2) (l := x3.2.1.2) (f := x3.2.2)
    have hltx : (logTx x3.1.2 x3.2.1.2).length ≤ 1048576 := by rw [logTx_t hvl]; exact Nat.le_trans (lText_le (s := x3.1.2) (l := x3.2.1.2) (k := x3.2.1.2.length) hvs (by omega) (fun i hi => by have := (hL.rd hi).1; omega) (Nat.le_refl _)) (by decide)
    refine Ex.regSeq (ExL.pures 2 rfl ?_)
    refine ExL.free (fr_loadN rfl rfl rfl rfl rfl (SegO.whole (i := 0) rfl)) rfl rfl rfl ?_
    refine ExL.op rfl (op_ret rfl rfl rfl (c_iStory x3.1.2 (by assumption) _ _ (by omega) x3.2.1.2 _ _ (by omega) x3.2.2) (fun w hw => ⟨Reads.get (Reads.row (i := 1) rfl) w hw, Reads.get (Reads.row (i := 2) rfl) w hw⟩) rfl rfl (fun x5 hx5 => ?_))
    refine ExL.pures 3 rfl ?_
    refine ExL.op rfl (op_alloc rfl rfl rfl rfl rfl (fun b6 => ?_))
    refine ExL.op rfl (op_storeC (i := 0) rfl rfl rfl rfl rfl rfl rfl rfl rfl rfl ?_)
    refine ExL.pures 1 rfl ?_
    refine ExL.nil ?_
    refine Ex.regSeq (ExL.pures 2 rfl ?_)
    refine ExL.free (fr_loadN rfl rfl rfl rfl rfl (SegO.whole (i := 3) rfl)) rfl rfl rfl ?_
    refine ExL.op rfl (op_ret rfl rfl rfl (c_sStory x3.1.2 (by assumption) _ _ (by omega) x3.2.1.2 _ _ (by omega) x3.2.2) (fun w hw => ⟨Reads.get (Reads.row (i := 4) rfl) w hw, Reads.get (Reads.row (i := 5) rfl) w hw⟩) rfl rfl (fun x7 hx7 => ?_))
    refine ExL.pures 3 rfl ?_
    refine ExL.op rfl (op_alloc rfl rfl rfl rfl rfl (fun b8 => ?_))
    refine ExL.op rfl (op_storeC (i := 0) rfl rfl rfl rfl rfl rfl rfl rfl rfl rfl ?_)
    refine ExL.pures 1 rfl ?_
    refine ExL.nil ?_
    rw [hst1, hst2]
    refine Ex.regSeq (ExL.pures 2 rfl ?_)
    refine ExL.free (fr_loadN rfl rfl rfl rfl rfl (SegO.whole (i := 6) rfl)) rfl rfl rfl ?_
    refine ExL.free (fr_loadN rfl rfl rfl rfl rfl (SegO.whole (i := 0) rfl)) rfl rfl rfl ?_
    refine ExL.op rfl (op_ret rfl rfl rfl (c_iCheckS x3.1.2 (by assumption) _ _ (by omega) x3.2.1.2 _ _ (by omega) x3.2.2 (by assumption) (stV (fitsF x3.1.2 x3.2.1.2 x3.2.2) x3.2.1.2.length) (x7.1.1) (x7.1.2) (x7.2.1) (x7.2.2) (by first | assumption | (constructor <;> first | omega | (dsimp only; omega)))) (fun w hw => ⟨⟨Reads.get (Reads.row (i := 7) rfl) w hw, Reads.get (Reads.row (i := 8) rfl) w hw⟩, Reads.get (Reads.row (i := 1) rfl) w hw, Reads.get (Reads.row (i := 2) rfl) w hw⟩) rfl rfl (fun x9 hx9 => ?_))
    refine ExL.pures 5 rfl ?_
    refine ExL.nil ?_
    rw [htold]
    refine Ex.regSeq (ExL.pures 2 rfl ?_)
    refine ExL.free (fr_loadN rfl rfl rfl rfl rfl (SegO.whole (i := 6) rfl)) rfl rfl rfl ?_
    refine ExL.op rfl (op_ret rfl rfl rfl (c_iSuspects x3.1.2 (by assumption) _ _ (by omega) x3.2.1.2 _ _ (by omega) x3.2.2 (by assumption)) (fun w hw => ⟨Reads.get (Reads.row (i := 7) rfl) w hw, Reads.get (Reads.row (i := 8) rfl) w hw⟩) rfl rfl (fun x10 hx10 => ?_))
    refine ExL.pures 5 rfl ?_
    refine ExL.nil ?_
    refine Ex.regSeq (ExL.pures 2 rfl ?_)
    refine ExL.free (fr_loadN rfl rfl rfl rfl rfl (SegO.whole (i := 7) rfl)) rfl rfl rfl ?_
    refine ExL.op rfl (op_ret rfl rfl rfl (c_sSuspects x3.1.2 (by assumption) _ _ (by omega) x3.2.1.2 _ _ (by omega) x3.2.2 (by assumption)) (fun w hw => ⟨Reads.get (Reads.row (i := 8) rfl) w hw, Reads.get (Reads.row (i := 9) rfl) w hw⟩) rfl rfl (fun x11 hx11 => ?_))
    refine ExL.pures 5 rfl ?_
    refine ExL.nil ?_
    refine Ex.regSeq (ExL.pures 3 rfl ?_)
    refine ExL.op rfl (op_ret rfl rfl rfl (c_iLogText x3.1.2 (by assumption) _ _ (by omega) x3.2.1.2 _ _ (by omega)) (fun w hw => ⟨Reads.get (Reads.row (i := 9) rfl) w hw, Reads.get (Reads.row (i := 10) rfl) w hw, TabO.keep htab hw⟩) rfl rfl (fun x12 hx12 => ?_))
    refine ExL.op rfl (op_ret rfl rfl rfl (c_iReadLog x3.1.2 (by assumption) _ _ (by omega) (logTx x3.1.2 x3.2.1.2) (by omega)) (fun w hw => ⟨Reads.get (Reads.row (i := 9) rfl) w hw, RdO.keep hrd hw, TabO.keep htab hw⟩) rfl rfl (fun x13 hx13 => ?_))
    refine ExL.pures 5 rfl ?_
    refine ExL.nil ?_
    refine Ex.seq ?_
    obtain ⟨hlb1, hlb2⟩ := rdLog_back hvs hvl hx13
    rw [hlb1, hlb2]
    refine Ex.regSeq (ExL.pures 2 rfl ?_)
    refine ExL.free (fr_neq_f rfl rfl rfl (fun h => h rfl)) rfl rfl rfl ?_
    refine ExL.pures 2 rfl ?_
    refine ExL.free (fr_neq_f rfl rfl rfl (fun h => h rfl)) rfl rfl rfl ?_
    refine ExL.pures 2 rfl ?_
    refine ExL.free (fr_loadN rfl rfl rfl rfl rfl (SegO.whole (i := 6) rfl)) rfl rfl rfl ?_
    refine ExL.free (fr_loadN rfl rfl rfl rfl rfl (SegO.whole (i := 3) rfl)) rfl rfl rfl ?_
    refine ExL.op rfl (op_ret rfl rfl rfl (c_sSameStory (stV (fitsF x3.1.2 x3.2.1.2 x3.2.2) x3.2.1.2.length) (x5.1.1) (x5.1.2) (x5.2.1) (x5.2.2) x7.1.1 x7.1.2 x7.2.1 x7.2.2 (by first | assumption | (constructor <;> omega))) (fun w hw => ⟨Reads.get (Reads.row (i := 7) rfl) w hw, Reads.get (Reads.row (i := 8) rfl) w hw, Reads.get (Reads.row (i := 4) rfl) w hw, Reads.get (Reads.row (i := 5) rfl) w hw⟩) rfl rfl (fun x14 hx14 => ?_))
    refine ExL.pures 3 rfl ?_
    refine ExL.free (fr_loadN rfl rfl rfl rfl rfl (SegO.whole (i := 6) rfl)) rfl rfl rfl ?_
    refine ExL.free (fr_loadN rfl rfl rfl rfl rfl (SegO.whole (i := 3) rfl)) rfl rfl rfl ?_
    refine ExL.op rfl (op_ret rfl rfl rfl (c_iSameStory (stV (fitsF x3.1.2 x3.2.1.2 x3.2.2) x3.2.1.2.length) (x5.1.1) (x5.1.2) (x5.2.1) (x5.2.2) x7.1.1 x7.1.2 x7.2.1 x7.2.2 (by first | assumption | (constructor <;> omega))) (fun w hw => ⟨Reads.get (Reads.row (i := 7) rfl) w hw, Reads.get (Reads.row (i := 8) rfl) w hw, Reads.get (Reads.row (i := 4) rfl) w hw, Reads.get (Reads.row (i := 5) rfl) w hw⟩) rfl rfl (fun x15 hx15 => ?_))
    refine ExL.pures 4 rfl ?_
    refine ExL.free (fr_neq_f rfl rfl rfl (fun h => h rfl)) rfl rfl rfl ?_
    refine ExL.pures 8 rfl ?_
    refine ExL.free (fr_neq_f rfl rfl rfl (fun h => h rfl)) rfl rfl rfl ?_
    refine ExL.pures 3 rfl ?_
    refine ExL.free (fr_neq_f rfl rfl rfl (fun h => h rfl)) rfl rfl rfl ?_
    refine ExL.pures 4 rfl ?_
    refine ExL.op rfl (op_ret rfl rfl rfl (c_A2Same (susL (fitsF x3.1.2 x3.2.1.2 x3.2.2) (x3.2.1.2.length - 1)) (x10.1) (x10.2) (by omega) (susL (fitsF x3.1.2 x3.2.1.2 x3.2.2) (x3.2.1.2.length - 1)) (x11.1) (x11.2) (by omega)) (fun w hw => ⟨Reads.get (Reads.row (i := 2) rfl) w hw, Reads.get (Reads.row (i := 1) rfl) w hw⟩) rfl rfl (fun x16 hx16 => ?_))
    refine ExL.pures 3 rfl ?_
    refine ExL.bool (d := 131) rfl (fun hb17 => ?_) (fun hb17 => ?_)
    · replace hb17 := nd_t hb17
      refine ExL.pures 26 rfl ?_
      refine ExL.nil ?_
      refine Ex.cond_t rfl ?_
      refine Ex.regSeq (ExL.pures 1 rfl ?_)
      refine ExL.nil ?_
      refine Ex.ret ?_
      refine RetQ.mk () rfl (.tmp rfl .nil) (tB (by first | rfl | exact absurd rfl (by assumption) | exact absurd (hvl.symm.trans (by assumption)) (by decide) | exact absurd (hvf.symm.trans (by assumption)) (by decide) | exact absurd (by assumption) (hwn (by assumption)))) [] (rfl) rfl (trivial)
    · replace hb17 := nd_f hb17
      refine ExL.pures 1 rfl ?_
      refine ExL.free (fr_neq_f rfl rfl rfl (fun h => h rfl)) rfl rfl rfl ?_
      refine ExL.pures 4 rfl ?_
      refine ExL.op rfl (op_ret rfl rfl rfl (c_sSameLog x3.2.1.2 _ _ (by omega) _ _) (fun w hw => ⟨Reads.get (Reads.row (i := 0) rfl) w hw, Reads.get (Reads.row (i := 11) rfl) w hw⟩) rfl rfl (fun x18 hx18 => ?_))
      refine ExL.pures 5 rfl ?_
      refine ExL.op rfl (op_ret rfl rfl rfl (c_iSameLog x3.2.1.2 _ _ (by omega) _ _) (fun w hw => ⟨Reads.get (Reads.row (i := 0) rfl) w hw, Reads.get (Reads.row (i := 11) rfl) w hw⟩) rfl rfl (fun x19 hx19 => ?_))
      refine ExL.pures 5 rfl ?_
      refine ExL.op rfl (op_ret rfl rfl rfl (c_ValidLog x3.1.2 (by assumption) _ _ (by omega) x3.2.1.2 _ _ (by omega)) (fun w hw => ⟨Reads.get (Reads.row (i := 10) rfl) w hw, Reads.get (Reads.row (i := 11) rfl) w hw⟩) rfl rfl (fun x20 hx20 => ?_))
      refine ExL.pures 3 rfl ?_
      refine ExL.bool (d := 153) rfl (fun hb21 => ?_) (fun hb21 => ?_)
      · replace hb21 := nb_t hb21
        refine ExL.pures 4 rfl ?_
        refine ExL.nil ?_
        refine Ex.cond_t rfl ?_
        refine Ex.regSeq (ExL.pures 1 rfl ?_)
        refine ExL.nil ?_
        refine Ex.ret ?_
        refine RetQ.mk () rfl (.tmp rfl .nil) (tB (by first | rfl | exact absurd rfl (by assumption) | exact absurd (hvl.symm.trans (by assumption)) (by decide) | exact absurd (hvf.symm.trans (by assumption)) (by decide) | exact absurd (by assumption) (hwn (by assumption)))) [] (rfl) rfl (trivial)
      · replace hb21 := nb_f hb21
        refine ExL.free (fr_loadN rfl rfl rfl rfl rfl (SegO.whole (i := 9) rfl)) rfl rfl rfl ?_
        refine ExL.op rfl (op_ret rfl rfl rfl (c_ValidFlow x3.2.2) (fun _ _ => trivial) rfl rfl (fun x22 hx22 => ?_))
        refine ExL.pures 2 rfl ?_
        refine ExL.nil ?_
        refine Ex.cond rfl (fun hb23 => ?_) (fun hb23 => ?_)
        · replace hb23 := nb_t hb23
          refine Ex.regSeq (ExL.pures 1 rfl ?_)
          refine ExL.nil ?_
          refine Ex.ret ?_
          refine RetQ.mk () rfl (.tmp rfl .nil) (tB (by first | rfl | exact absurd rfl (by assumption) | exact absurd (hvl.symm.trans (by assumption)) (by decide) | exact absurd (hvf.symm.trans (by assumption)) (by decide) | exact absurd (by assumption) (hwn (by assumption)))) [] (rfl) rfl (trivial)
        · replace hb23 := nb_f hb23
          refine Ex.skip ?_
          refine Ex.seq ?_
          refine Ex.regSeq (ExL.pures 2 rfl ?_)
          refine ExL.free (fr_eql rfl rfl rfl) rfl rfl rfl ?_
          refine ExL.pures 1 rfl ?_
          refine ExL.free (fr_load rfl rfl rfl rfl (CellO.blk (i := 3) rfl rfl)) rfl rfl rfl ?_
          refine ExL.free (fr_eql rfl rfl rfl) rfl rfl rfl ?_
          refine ExL.free (fr_neq_bool_eq hsb rfl rfl rfl rfl) rfl rfl rfl ?_
          refine ExL.pures 2 rfl ?_
          refine ExL.free (fr_load rfl rfl rfl rfl (CellO.blk (i := 3) rfl rfl)) rfl rfl rfl ?_
          refine ExL.pures 2 rfl ?_
          refine ExL.free (by first | exact fr_mul64 rfl rfl rfl (by omega) | exact fr_mul rfl rfl rfl) rfl rfl rfl ?_
          refine ExL.free (fr_gtr_f rfl rfl rfl (by omega)) rfl rfl rfl ?_
          refine ExL.pures 4 rfl ?_
          refine ExL.eql rfl rfl rfl rfl rfl rfl (fun h24 => ?_) (fun h24 => ?_)
          · refine ExL.pures 2 rfl ?_
            refine ExL.free (fr_load rfl rfl rfl rfl (CellO.blk (i := 3) rfl rfl)) rfl rfl rfl ?_
            refine ExL.pures 3 rfl ?_
            refine ExL.free (fr_neq_f rfl rfl rfl (fun h9 => h9 (by have := hsu5 (by omega); omega))) rfl rfl rfl ?_
            refine ExL.pures 2 rfl ?_
            refine ExL.nil ?_
            refine Ex.cond_f rfl ?_
            refine Ex.skip ?_
            refine Ex.regSeq (ExL.pures 3 rfl ?_)
            refine ExL.free (fr_loadN rfl rfl rfl rfl rfl (SegO.whole (i := 9) rfl)) rfl rfl rfl ?_
            refine ExL.op rfl (op_ret rfl rfl rfl (c_A2Story t _ _ (by omega) (by assumption) x3.1.2 (by assumption) _ _ (by omega) x3.2.1.2 _ _ (by omega) x3.2.2 (by assumption)) (fun w hw => ⟨Reads.get (Reads.old ht) w hw, Reads.get (Reads.row (i := 10) rfl) w hw, Reads.get (Reads.row (i := 11) rfl) w hw⟩) rfl rfl (fun x25 hx25 => ?_))
            obtain ⟨hq1x25, hq2x25⟩ := hx25
            have hqdx25 := dropB_len x25.1 x25.2.1.2
            refine ExL.op rfl (op_alloc rfl rfl rfl rfl rfl (fun b26 => ?_))
            refine ExL.op rfl (op_storeC (i := 0) rfl rfl rfl rfl rfl rfl rfl rfl rfl rfl ?_)
            refine ExL.nil ?_
            refine Ex.regSeq (ExL.pures 2 rfl ?_)
            refine ExL.free (fr_loadN rfl rfl rfl rfl rfl (SegO.whole (i := 12) rfl)) rfl rfl rfl ?_
            refine ExL.free (fr_loadN rfl rfl rfl rfl rfl (SegO.whole (i := 0) rfl)) rfl rfl rfl ?_
            refine ExL.op rfl (op_ret rfl rfl rfl (c_iCheckS x3.1.2 (by assumption) _ _ (by omega) x3.2.1.2 _ _ (by omega) x3.2.2 (by assumption) (⟨dropB x25.1 x25.2.1.2, x25.2.2.1.2, x25.2.2.2⟩ : VSt) ((cutJ x25.1 x25.2.1.1.1 x25.2.1.1.2)) ((x25.2.1.1.2 - backB x25.1)) (x25.2.2.1.1.1) (x25.2.2.1.1.2) (by first | assumption | (constructor <;> first | omega | (dsimp only; omega)))) (fun w hw => ⟨⟨Reads.get (Reads.row (i := 13) rfl) w hw, Reads.get (Reads.row (i := 14) rfl) w hw⟩, Reads.get (readsJ (i := 1) x25.1 rfl) w hw, Reads.get (Reads.row (i := 2) rfl) w hw⟩) rfl rfl (fun x27 hx27 => ?_))
            refine ExL.pures 5 rfl ?_
            refine ExL.nil ?_
            refine Ex.regSeq (ExL.pures 2 rfl ?_)
            refine ExL.free (fr_loadN rfl rfl rfl rfl rfl (SegO.whole (i := 12) rfl)) rfl rfl rfl ?_
            refine ExL.free (fr_loadN rfl rfl rfl rfl rfl (SegO.whole (i := 0) rfl)) rfl rfl rfl ?_
            refine ExL.op rfl (op_ret rfl rfl rfl (c_sCheckS x3.1.2 (by assumption) _ _ (by omega) x3.2.1.2 _ _ (by omega) x3.2.2 (by assumption) (⟨dropB x25.1 x25.2.1.2, x25.2.2.1.2, x25.2.2.2⟩ : VSt) ((cutJ x25.1 x25.2.1.1.1 x25.2.1.1.2)) ((x25.2.1.1.2 - backB x25.1)) (x25.2.2.1.1.1) (x25.2.2.1.1.2) (by first | assumption | (constructor <;> first | omega | (dsimp only; omega)))) (fun w hw => ⟨⟨Reads.get (Reads.row (i := 13) rfl) w hw, Reads.get (Reads.row (i := 14) rfl) w hw⟩, Reads.get (readsJ (i := 1) x25.1 rfl) w hw, Reads.get (Reads.row (i := 2) rfl) w hw⟩) rfl rfl (fun x28 hx28 => ?_))
            refine ExL.pures 5 rfl ?_
            refine ExL.nil ?_
            refine Ex.regSeq (ExL.pures 2 rfl ?_)
            refine ExL.free (fr_loadN rfl rfl rfl rfl rfl (SegO.whole (i := 12) rfl)) rfl rfl rfl ?_
            refine ExL.free (fr_loadN rfl rfl rfl rfl rfl (SegO.whole (i := 0) rfl)) rfl rfl rfl ?_
            refine ExL.op rfl (op_ret rfl rfl rfl (c_iTotalS x3.1.2 (by assumption) _ _ (by omega) x3.2.1.2 _ _ (by omega) x3.2.2 (by assumption) (⟨dropB x25.1 x25.2.1.2, x25.2.2.1.2, x25.2.2.2⟩ : VSt) ((cutJ x25.1 x25.2.1.1.1 x25.2.1.1.2)) ((x25.2.1.1.2 - backB x25.1)) (x25.2.2.1.1.1) (x25.2.2.1.1.2) (by first | assumption | (constructor <;> first | omega | (dsimp only; omega)))) (fun w hw => ⟨⟨Reads.get (Reads.row (i := 13) rfl) w hw, Reads.get (Reads.row (i := 14) rfl) w hw⟩, Reads.get (readsJ (i := 1) x25.1 rfl) w hw, Reads.get (Reads.row (i := 2) rfl) w hw⟩) rfl rfl (fun x29 hx29 => ?_))
            refine ExL.pures 7 rfl ?_
            refine ExL.nil ?_
            refine Ex.seq ?_
            have htb : toldB (fitsF x3.1.2 x3.2.1.2 x3.2.2) x3.2.1.2.length (⟨dropB x25.1 x25.2.1.2, x25.2.2.1.2, x25.2.2.2⟩ : VSt) = true → (stV (fitsF x3.1.2 x3.2.1.2 x3.2.2) x3.2.1.2.length).cost ≤ x25.2.2.2 := fun h9 => told_ge (told_t.1 h9)
            have hx9 := hx29
            have hlh := hx9.1
            have hsx : x29.2.2 = 0 ∨ x29.2.2 = 4 := by rcases hx9.2 with ⟨_, h9⟩ | ⟨_, h9⟩; exact .inl h9; exact .inr h9
            have hsix : decide (x29.2.2 = 0) = toldB (fitsF x3.1.2 x3.2.1.2 x3.2.2) x3.2.1.2.length (⟨dropB x25.1 x25.2.1.2, x25.2.2.1.2, x25.2.2.2⟩ : VSt) := by rcases hx9.2 with ⟨h8, h9⟩ | ⟨h8, h9⟩ <;> (rw [h8, h9]; rfl)
            refine Ex.regSeq (ExL.pures 2 rfl ?_)
            refine ExL.free (fr_neq_f rfl rfl rfl (fun h => h rfl)) rfl rfl rfl ?_
            refine ExL.pures 3 rfl ?_
            refine ExL.free (fr_neq_bool_same rfl rfl rfl rfl) rfl rfl rfl ?_
            refine ExL.pures 4 rfl ?_
            refine ExL.bool (d := 226) rfl (fun hb30 => ?_) (fun hb30 => ?_)
            · refine ExL.pures 1 rfl ?_
              refine ExL.free (fr_load rfl rfl rfl rfl (CellO.blk (i := 0) rfl rfl)) rfl rfl rfl ?_
              refine ExL.pures 1 rfl ?_
              refine ExL.free (fr_load rfl rfl rfl rfl (CellO.blk (i := 6) rfl rfl)) rfl rfl rfl ?_
              refine ExL.free (fr_lss_f rfl rfl rfl (fun h9 => absurd (htb (by assumption)) (Int.not_le.2 h9))) rfl rfl rfl ?_
              refine ExL.pures 4 rfl ?_
              refine ExL.free (fr_eql rfl rfl rfl) rfl rfl rfl ?_
              refine ExL.pures 1 rfl ?_
              refine ExL.free (fr_neq_bool_eq hsix rfl rfl rfl rfl) rfl rfl rfl ?_
              refine ExL.pures 3 rfl ?_
              refine ExL.neq rfl rfl rfl rfl rfl rfl (fun h31 => ?_) (fun h31 => ?_)
              · refine ExL.pures 2 rfl ?_
                refine ExL.free (fr_neq_f rfl rfl rfl (by omega)) rfl rfl rfl ?_
                refine ExL.pures 5 rfl ?_
                refine ExL.free (fr_gtr_f rfl rfl rfl (by omega)) rfl rfl rfl ?_
                refine ExL.pures 1 rfl ?_
                refine ExL.nil ?_
                refine Ex.cond_f rfl ?_
                refine Ex.skip ?_
                refine Ex.regSeq (ExL.pures 2 rfl ?_)
                refine ExL.free (fr_loadN rfl rfl rfl rfl rfl (SegO.whole (i := 12) rfl)) rfl rfl rfl ?_
                refine ExL.op rfl (op_ret rfl rfl rfl (c_iSure x3.1.2 (by assumption) _ _ (by omega) x3.2.1.2 _ _ (by omega) x3.2.2) (fun w hw => ⟨Reads.get (Reads.row (i := 13) rfl) w hw, Reads.get (Reads.row (i := 14) rfl) w hw⟩) rfl rfl (fun x32 hx32 => ?_))
                refine ExL.pures 5 rfl ?_
                refine ExL.nil ?_
                refine Ex.regSeq (ExL.pures 2 rfl ?_)
                refine ExL.free (fr_loadN rfl rfl rfl rfl rfl (SegO.whole (i := 13) rfl)) rfl rfl rfl ?_
                refine ExL.op rfl (op_ret rfl rfl rfl (c_sSure x3.1.2 (by assumption) _ _ (by omega) x3.2.1.2 _ _ (by omega) x3.2.2) (fun w hw => ⟨Reads.get (Reads.row (i := 14) rfl) w hw, Reads.get (Reads.row (i := 15) rfl) w hw⟩) rfl rfl (fun x33 hx33 => ?_))
                refine ExL.pures 5 rfl ?_
                refine ExL.nil ?_
                refine Ex.seq ?_
                refine Ex.regSeq (ExL.pures 2 rfl ?_)
                refine ExL.free (fr_neq_f rfl rfl rfl (fun h => h rfl)) rfl rfl rfl ?_
                refine ExL.pures 2 rfl ?_
                refine ExL.free (fr_neq_f rfl rfl rfl (by rw [hsr2]; exact fun h => h rfl)) rfl rfl rfl ?_
                refine ExL.pures 4 rfl ?_
                refine ExL.op rfl (op_ret rfl rfl rfl (c_A2Same ((sureV x3.1.2 x3.2.1.2 x3.2.2).1) (x32.1) (x32.2) (by omega) ((sureV x3.1.2 x3.2.1.2 x3.2.2).1) (x33.1) (x33.2) (by omega)) (fun w hw => ⟨Reads.get (Reads.row (i := 1) rfl) w hw, Reads.get (Reads.row (i := 0) rfl) w hw⟩) rfl rfl (fun x34 hx34 => ?_))
                refine ExL.pures 2 rfl ?_
                refine ExL.nil ?_
                refine Ex.cond rfl (fun hb35 => ?_) (fun hb35 => ?_)
                · replace hb35 := nd_t hb35
                  refine Ex.regSeq (ExL.pures 1 rfl ?_)
                  refine ExL.nil ?_
                  refine Ex.ret ?_
                  refine RetQ.mk () rfl (.tmp rfl .nil) (tB (by first | rfl | exact absurd rfl (by assumption) | exact absurd (hvl.symm.trans (by assumption)) (by decide) | exact absurd (hvf.symm.trans (by assumption)) (by decide) | exact absurd (by assumption) (hwn (by assumption)))) [] (rfl) rfl (trivial)
                · replace hb35 := nd_f hb35
                  refine Ex.skip ?_
                  refine Ex.seq ?_
                  refine Ex.regSeq (ExL.pures 1 rfl ?_)
                  refine ExL.nil ?_
                  refine Ex.block ?_
                  refine Ex.loopK (X := Nat) (fun k => [(32, .int .i64 k)]) (fun k => []) (fun k => k ≤ x3.2.1.2.length) (fun k => x3.2.1.2.length - k) 0 [(5, _), (6, _), (7, _), (10, _), (30, _)] [_, _, _, _, _, _] 17 [0, 8, 9, 14, 15, 16] ⟨rfl, trivial⟩ ⟨rfl, rfl, rfl, rfl, rfl, trivial⟩ (rfl) rfl (Nat.zero_le _) (fun k hI => ?_)
                  have hI : k ≤ x3.2.1.2.length := hI
                  refine Ex.seq ?_
                  refine Ex.regSeq (ExL.pures 3 rfl ?_)
                  refine ExL.lss rfl rfl rfl rfl rfl rfl (fun h36 => ?_) (fun h36 => ?_)
                  · refine ExL.nil ?_
                    refine Ex.cond_t rfl ?_
                    refine Ex.skip ?_
                    refine Ex.seq ?_
                    refine Ex.block ?_
                    have hkl : k < x3.2.1.2.length := by omega
                    have hW := wol (f := x3.2.2) hask hkl
                    have hw6 := hW.six
                    have hw0 := hW.ok
                    have hwg := hW.ge
                    have hwe := hW.eq
                    have hws := hW.sure
                    have hwn := hW.not_
                    refine Ex.regSeq (ExL.pures 2 rfl ?_)
                    refine ExL.free (fr_loadN rfl rfl rfl rfl rfl (SegO.whole (i := 3) rfl)) rfl rfl rfl ?_
                    refine ExL.pures 1 rfl ?_
                    refine ExL.op rfl (op_ret rfl rfl rfl (c_iWithout x3.1.2 (by assumption) _ _ (by omega) x3.2.1.2 _ _ (by omega) x3.2.2 ↑k) (fun w hw => ⟨Reads.get (Reads.row (i := 4) rfl) w hw, Reads.get (Reads.row (i := 5) rfl) w hw⟩) rfl rfl (fun x37 hx37 => ?_))
                    refine ExL.pures 5 rfl ?_
                    refine ExL.nil ?_
                    refine Ex.regSeq (ExL.pures 1 rfl ?_)
                    refine ExL.free (fr_load rfl rfl rfl rfl (CellO.blk (i := 1) rfl rfl)) rfl rfl rfl ?_
                    refine ExL.pures 1 rfl ?_
                    refine ExL.op rfl (op_ret rfl rfl rfl (c_A2Has (stV (fitsF x3.1.2 x3.2.1.2 x3.2.2) x3.2.1.2.length).kept _ _ (by omega) _) (Reads.get (Reads.row (i := 2) rfl)) rfl rfl (fun x38 hx38 => ?_))
                    refine ExL.pures 1 rfl ?_
                    refine ExL.nil ?_
                    refine Ex.seq ?_
                    refine Ex.regSeq (ExL.pures 2 rfl ?_)
                    refine ExL.bool (d := 299) rfl (fun hb39 => ?_) (fun hb39 => ?_)
                    · refine ExL.pures 2 rfl ?_
                      refine ExL.op rfl (op_ret rfl rfl rfl (c_A2Has ((sureV x3.1.2 x3.2.1.2 x3.2.2).1) _ _ (by omega) _) (Reads.get (Reads.row (i := 0) rfl)) rfl rfl (fun x40 hx40 => ?_))
                      refine ExL.pures 1 rfl ?_
                      refine ExL.nil ?_
                      refine Ex.cond rfl (fun hb41 => ?_) (fun hb41 => ?_)
                      · refine Ex.regSeq (ExL.pures 1 rfl ?_)
                        refine ExL.nil ?_
                        refine Ex.ret ?_
                        refine RetQ.mk () rfl (.tmp rfl .nil) (tB (by first | rfl | exact absurd rfl (by assumption) | exact absurd (hvl.symm.trans (by assumption)) (by decide) | exact absurd (hvf.symm.trans (by assumption)) (by decide) | exact absurd (by assumption) (hwn (by assumption)))) [] (rfl) rfl (trivial)
                      · refine Ex.skip ?_
                        refine Ex.seq ?_
                        refine Ex.regSeq (ExL.pures 2 rfl ?_)
                        refine ExL.eql rfl rfl rfl rfl rfl rfl (fun h42 => ?_) (fun h42 => ?_)
                        · refine ExL.nil ?_
                          refine Ex.cond_t rfl ?_
                          refine Ex.regSeq (ExL.pures 1 rfl ?_)
                          refine ExL.free (fr_eql_t rfl rfl rfl (hw6 (by omega))) rfl rfl rfl ?_
                          refine ExL.pures 1 rfl ?_
                          refine ExL.nil ?_
                          refine Ex.ret ?_
                          refine RetQ.mk () rfl (.tmp rfl .nil) (tB (by first | rfl | exact absurd rfl (by assumption) | exact absurd (hvl.symm.trans (by assumption)) (by decide) | exact absurd (hvf.symm.trans (by assumption)) (by decide) | exact absurd (by assumption) (hwn (by assumption)))) [] (rfl) rfl (trivial)
                        · refine ExL.nil ?_
                          refine Ex.cond_f rfl ?_
                          refine Ex.skip ?_
                          refine Ex.regSeq (ExL.pures 1 rfl ?_)
                          refine ExL.free (fr_neq_f rfl rfl rfl (by rw [hw0 (by omega)]; exact fun h => h rfl)) rfl rfl rfl ?_
                          refine ExL.pures 3 rfl ?_
                          refine ExL.free (fr_load rfl rfl rfl rfl (CellO.blk (i := 1) rfl rfl)) rfl rfl rfl ?_
                          refine ExL.free (fr_lss_f rfl rfl rfl (by have := hwg (by omega); omega)) rfl rfl rfl ?_
                          refine ExL.pures 5 rfl ?_
                          refine ExL.bool (d := 320) rfl (fun hb43 => ?_) (fun hb43 => ?_)
                          · replace hb43 := nb_t hb43
                            refine ExL.pures 2 rfl ?_
                            refine ExL.free (fr_load rfl rfl rfl rfl (CellO.blk (i := 1) rfl rfl)) rfl rfl rfl ?_
                            refine ExL.free (fr_neq_f rfl rfl rfl (fun h9 => h9 (hwe (by omega) (by assumption)))) rfl rfl rfl ?_
                            refine ExL.pures 5 rfl ?_
                            refine ExL.op rfl (op_ret rfl rfl rfl (c_A2Has ((sureV x3.1.2 x3.2.1.2 x3.2.2).1) _ _ (by omega) _) (Reads.get (Reads.row (i := 0) rfl)) rfl rfl (fun x44 hx44 => ?_))
                            refine ExL.pures 1 rfl ?_
                            refine ExL.bool (d := 331) rfl (fun hb45 => ?_) (fun hb45 => ?_)
                            · refine ExL.pures 2 rfl ?_
                              refine ExL.free (fr_load rfl rfl rfl rfl (CellO.blk (i := 1) rfl rfl)) rfl rfl rfl ?_
                              refine ExL.free (fr_neq_f rfl rfl rfl (fun h9 => h9 (hws (by omega) (by assumption)))) rfl rfl rfl ?_
                              refine ExL.pures 2 rfl ?_
                              refine ExL.nil ?_
                              refine Ex.cond_f rfl ?_
                              refine Ex.skip ?_
                              refine Ex.region (ExL.pures 1 rfl ?_)
                              refine ExL.free (by first | exact fr_add64 rfl rfl rfl (by omega) | exact fr_add rfl rfl rfl) rfl rfl rfl ?_
                              refine ExL.pures 1 rfl ?_
                              refine ExL.nil ?_
                              refine Hand.mk (k + 1) 6 [0, 1, 2, 3, 4, 5] ⟨rfl, trivial⟩ ⟨rfl, rfl, rfl, rfl, rfl, trivial⟩ (rfl) rfl (by omega) (by omega)
                            · refine ExL.pures 6 rfl ?_
                              refine ExL.nil ?_
                              refine Ex.cond_f rfl ?_
                              refine Ex.skip ?_
                              refine Ex.region (ExL.pures 1 rfl ?_)
                              refine ExL.free (by first | exact fr_add64 rfl rfl rfl (by omega) | exact fr_add rfl rfl rfl) rfl rfl rfl ?_
                              refine ExL.pures 1 rfl ?_
                              refine ExL.nil ?_
                              refine Hand.mk (k + 1) 6 [0, 1, 2, 3, 4, 5] ⟨rfl, trivial⟩ ⟨rfl, rfl, rfl, rfl, rfl, trivial⟩ (rfl) rfl (by omega) (by omega)
                          · replace hb43 := nb_f hb43
                            refine ExL.pures 9 rfl ?_
                            refine ExL.op rfl (op_ret rfl rfl rfl (c_A2Has ((sureV x3.1.2 x3.2.1.2 x3.2.2).1) _ _ (by omega) _) (Reads.get (Reads.row (i := 0) rfl)) rfl rfl (fun x46 hx46 => ?_))
                            refine ExL.pures 1 rfl ?_
                            refine ExL.bool (d := 331) rfl (fun hb47 => ?_) (fun hb47 => ?_)
                            · refine ExL.pures 2 rfl ?_
                              refine ExL.free (fr_load rfl rfl rfl rfl (CellO.blk (i := 1) rfl rfl)) rfl rfl rfl ?_
                              refine ExL.free (fr_neq_f rfl rfl rfl (fun h9 => h9 (hws (by omega) (by assumption)))) rfl rfl rfl ?_
                              refine ExL.pures 2 rfl ?_
                              refine ExL.nil ?_
                              refine Ex.cond_f rfl ?_
                              refine Ex.skip ?_
                              refine Ex.region (ExL.pures 1 rfl ?_)
                              refine ExL.free (by first | exact fr_add64 rfl rfl rfl (by omega) | exact fr_add rfl rfl rfl) rfl rfl rfl ?_
                              refine ExL.pures 1 rfl ?_
                              refine ExL.nil ?_
                              refine Hand.mk (k + 1) 6 [0, 1, 2, 3, 4, 5] ⟨rfl, trivial⟩ ⟨rfl, rfl, rfl, rfl, rfl, trivial⟩ (rfl) rfl (by omega) (by omega)
                            · refine ExL.pures 6 rfl ?_
                              refine ExL.nil ?_
                              refine Ex.cond_f rfl ?_
                              refine Ex.skip ?_
                              refine Ex.region (ExL.pures 1 rfl ?_)
                              refine ExL.free (by first | exact fr_add64 rfl rfl rfl (by omega) | exact fr_add rfl rfl rfl) rfl rfl rfl ?_
                              refine ExL.pures 1 rfl ?_
                              refine ExL.nil ?_
                              refine Hand.mk (k + 1) 6 [0, 1, 2, 3, 4, 5] ⟨rfl, trivial⟩ ⟨rfl, rfl, rfl, rfl, rfl, trivial⟩ (rfl) rfl (by omega) (by omega)
                    · refine ExL.pures 4 rfl ?_
                      refine ExL.nil ?_
                      refine Ex.cond_f rfl ?_
                      refine Ex.skip ?_
                      refine Ex.seq ?_
                      refine Ex.regSeq (ExL.pures 2 rfl ?_)
                      refine ExL.eql rfl rfl rfl rfl rfl rfl (fun h48 => ?_) (fun h48 => ?_)
                      · refine ExL.nil ?_
                        refine Ex.cond_t rfl ?_
                        refine Ex.regSeq (ExL.pures 1 rfl ?_)
                        refine ExL.free (fr_eql_t rfl rfl rfl (hw6 (by omega))) rfl rfl rfl ?_
                        refine ExL.pures 1 rfl ?_
                        refine ExL.nil ?_
                        refine Ex.ret ?_
                        refine RetQ.mk () rfl (.tmp rfl .nil) (tB (by first | rfl | exact absurd rfl (by assumption) | exact absurd (hvl.symm.trans (by assumption)) (by decide) | exact absurd (hvf.symm.trans (by assumption)) (by decide) | exact absurd (by assumption) (hwn (by assumption)))) [] (rfl) rfl (trivial)
                      · refine ExL.nil ?_
                        refine Ex.cond_f rfl ?_
                        refine Ex.skip ?_
                        refine Ex.regSeq (ExL.pures 1 rfl ?_)
                        refine ExL.free (fr_neq_f rfl rfl rfl (by rw [hw0 (by omega)]; exact fun h => h rfl)) rfl rfl rfl ?_
                        refine ExL.pures 3 rfl ?_
                        refine ExL.free (fr_load rfl rfl rfl rfl (CellO.blk (i := 1) rfl rfl)) rfl rfl rfl ?_
                        refine ExL.free (fr_lss_f rfl rfl rfl (by have := hwg (by omega); omega)) rfl rfl rfl ?_
                        refine ExL.pures 5 rfl ?_
                        refine ExL.bool (d := 320) rfl (fun hb49 => ?_) (fun hb49 => ?_)
                        · replace hb49 := nb_t hb49
                          refine ExL.pures 2 rfl ?_
                          refine ExL.free (fr_load rfl rfl rfl rfl (CellO.blk (i := 1) rfl rfl)) rfl rfl rfl ?_
                          refine ExL.free (fr_neq_f rfl rfl rfl (fun h9 => h9 (hwe (by omega) (by assumption)))) rfl rfl rfl ?_
                          refine ExL.pures 5 rfl ?_
                          refine ExL.op rfl (op_ret rfl rfl rfl (c_A2Has ((sureV x3.1.2 x3.2.1.2 x3.2.2).1) _ _ (by omega) _) (Reads.get (Reads.row (i := 0) rfl)) rfl rfl (fun x50 hx50 => ?_))
                          refine ExL.pures 1 rfl ?_
                          refine ExL.bool (d := 331) rfl (fun hb51 => ?_) (fun hb51 => ?_)
                          · refine ExL.pures 2 rfl ?_
                            refine ExL.free (fr_load rfl rfl rfl rfl (CellO.blk (i := 1) rfl rfl)) rfl rfl rfl ?_
                            refine ExL.free (fr_neq_f rfl rfl rfl (fun h9 => h9 (hws (by omega) (by assumption)))) rfl rfl rfl ?_
                            refine ExL.pures 2 rfl ?_
                            refine ExL.nil ?_
                            refine Ex.cond_f rfl ?_
                            refine Ex.skip ?_
                            refine Ex.region (ExL.pures 1 rfl ?_)
                            refine ExL.free (by first | exact fr_add64 rfl rfl rfl (by omega) | exact fr_add rfl rfl rfl) rfl rfl rfl ?_
                            refine ExL.pures 1 rfl ?_
                            refine ExL.nil ?_
                            refine Hand.mk (k + 1) 6 [0, 1, 2, 3, 4, 5] ⟨rfl, trivial⟩ ⟨rfl, rfl, rfl, rfl, rfl, trivial⟩ (rfl) rfl (by omega) (by omega)
                          · refine ExL.pures 6 rfl ?_
                            refine ExL.nil ?_
                            refine Ex.cond_f rfl ?_
                            refine Ex.skip ?_
                            refine Ex.region (ExL.pures 1 rfl ?_)
                            refine ExL.free (by first | exact fr_add64 rfl rfl rfl (by omega) | exact fr_add rfl rfl rfl) rfl rfl rfl ?_
                            refine ExL.pures 1 rfl ?_
                            refine ExL.nil ?_
                            refine Hand.mk (k + 1) 6 [0, 1, 2, 3, 4, 5] ⟨rfl, trivial⟩ ⟨rfl, rfl, rfl, rfl, rfl, trivial⟩ (rfl) rfl (by omega) (by omega)
                        · replace hb49 := nb_f hb49
                          refine ExL.pures 9 rfl ?_
                          refine ExL.op rfl (op_ret rfl rfl rfl (c_A2Has ((sureV x3.1.2 x3.2.1.2 x3.2.2).1) _ _ (by omega) _) (Reads.get (Reads.row (i := 0) rfl)) rfl rfl (fun x52 hx52 => ?_))
                          refine ExL.pures 1 rfl ?_
                          refine ExL.bool (d := 331) rfl (fun hb53 => ?_) (fun hb53 => ?_)
                          · refine ExL.pures 2 rfl ?_
                            refine ExL.free (fr_load rfl rfl rfl rfl (CellO.blk (i := 1) rfl rfl)) rfl rfl rfl ?_
                            refine ExL.free (fr_neq_f rfl rfl rfl (fun h9 => h9 (hws (by omega) (by assumption)))) rfl rfl rfl ?_
                            refine ExL.pures 2 rfl ?_
                            refine ExL.nil ?_
                            refine Ex.cond_f rfl ?_
                            refine Ex.skip ?_
                            refine Ex.region (ExL.pures 1 rfl ?_)
                            refine ExL.free (by first | exact fr_add64 rfl rfl rfl (by omega) | exact fr_add rfl rfl rfl) rfl rfl rfl ?_
                            refine ExL.pures 1 rfl ?_
                            refine ExL.nil ?_
                            refine Hand.mk (k + 1) 6 [0, 1, 2, 3, 4, 5] ⟨rfl, trivial⟩ ⟨rfl, rfl, rfl, rfl, rfl, trivial⟩ (rfl) rfl (by omega) (by omega)
                          · refine ExL.pures 6 rfl ?_
                            refine ExL.nil ?_
                            refine Ex.cond_f rfl ?_
                            refine Ex.skip ?_
                            refine Ex.region (ExL.pures 1 rfl ?_)
                            refine ExL.free (by first | exact fr_add64 rfl rfl rfl (by omega) | exact fr_add rfl rfl rfl) rfl rfl rfl ?_
                            refine ExL.pures 1 rfl ?_
                            refine ExL.nil ?_
                            refine Hand.mk (k + 1) 6 [0, 1, 2, 3, 4, 5] ⟨rfl, trivial⟩ ⟨rfl, rfl, rfl, rfl, rfl, trivial⟩ (rfl) rfl (by omega) (by omega)
                  · refine ExL.nil ?_
                    refine Ex.cond_f rfl ?_
                    refine Ex.exit ?_
                    refine Ex.regSeq (ExL.pures 1 rfl ?_)
                    refine ExL.nil ?_
                    refine Ex.ret ?_
                    refine RetQ.mk () rfl (.tmp rfl .nil) (tB (by first | rfl | exact absurd rfl (by assumption) | exact absurd (hvl.symm.trans (by assumption)) (by decide) | exact absurd (hvf.symm.trans (by assumption)) (by decide) | exact absurd (by assumption) (hwn (by assumption)))) [] (rfl) rfl (trivial)
              · refine ExL.pures 8 rfl ?_
                refine ExL.free (fr_gtr_f rfl rfl rfl (by omega)) rfl rfl rfl ?_
                refine ExL.pures 1 rfl ?_
                refine ExL.nil ?_
                refine Ex.cond_f rfl ?_
                refine Ex.skip ?_
                refine Ex.regSeq (ExL.pures 2 rfl ?_)
                refine ExL.free (fr_loadN rfl rfl rfl rfl rfl (SegO.whole (i := 12) rfl)) rfl rfl rfl ?_
                refine ExL.op rfl (op_ret rfl rfl rfl (c_iSure x3.1.2 (by assumption) _ _ (by omega) x3.2.1.2 _ _ (by omega) x3.2.2) (fun w hw => ⟨Reads.get (Reads.row (i := 13) rfl) w hw, Reads.get (Reads.row (i := 14) rfl) w hw⟩) rfl rfl (fun x54 hx54 => ?_))
                refine ExL.pures 5 rfl ?_
                refine ExL.nil ?_
                refine Ex.regSeq (ExL.pures 2 rfl ?_)
                refine ExL.free (fr_loadN rfl rfl rfl rfl rfl (SegO.whole (i := 13) rfl)) rfl rfl rfl ?_
                refine ExL.op rfl (op_ret rfl rfl rfl (c_sSure x3.1.2 (by assumption) _ _ (by omega) x3.2.1.2 _ _ (by omega) x3.2.2) (fun w hw => ⟨Reads.get (Reads.row (i := 14) rfl) w hw, Reads.get (Reads.row (i := 15) rfl) w hw⟩) rfl rfl (fun x55 hx55 => ?_))
                refine ExL.pures 5 rfl ?_
                refine ExL.nil ?_
                refine Ex.seq ?_
                refine Ex.regSeq (ExL.pures 2 rfl ?_)
                refine ExL.free (fr_neq_f rfl rfl rfl (fun h => h rfl)) rfl rfl rfl ?_
                refine ExL.pures 2 rfl ?_
                refine ExL.free (fr_neq_f rfl rfl rfl (by rw [hsr2]; exact fun h => h rfl)) rfl rfl rfl ?_
                refine ExL.pures 4 rfl ?_
                refine ExL.op rfl (op_ret rfl rfl rfl (c_A2Same ((sureV x3.1.2 x3.2.1.2 x3.2.2).1) (x54.1) (x54.2) (by omega) ((sureV x3.1.2 x3.2.1.2 x3.2.2).1) (x55.1) (x55.2) (by omega)) (fun w hw => ⟨Reads.get (Reads.row (i := 1) rfl) w hw, Reads.get (Reads.row (i := 0) rfl) w hw⟩) rfl rfl (fun x56 hx56 => ?_))
                refine ExL.pures 2 rfl ?_
                refine ExL.nil ?_
                refine Ex.cond rfl (fun hb57 => ?_) (fun hb57 => ?_)
                · replace hb57 := nd_t hb57
                  refine Ex.regSeq (ExL.pures 1 rfl ?_)
                  refine ExL.nil ?_
                  refine Ex.ret ?_
                  refine RetQ.mk () rfl (.tmp rfl .nil) (tB (by first | rfl | exact absurd rfl (by assumption) | exact absurd (hvl.symm.trans (by assumption)) (by decide) | exact absurd (hvf.symm.trans (by assumption)) (by decide) | exact absurd (by assumption) (hwn (by assumption)))) [] (rfl) rfl (trivial)
                · replace hb57 := nd_f hb57
                  refine Ex.skip ?_
                  refine Ex.seq ?_
                  refine Ex.regSeq (ExL.pures 1 rfl ?_)
                  refine ExL.nil ?_
                  refine Ex.block ?_
                  refine Ex.loopK (X := Nat) (fun k => [(32, .int .i64 k)]) (fun k => []) (fun k => k ≤ x3.2.1.2.length) (fun k => x3.2.1.2.length - k) 0 [(5, _), (6, _), (7, _), (10, _), (30, _)] [_, _, _, _, _, _] 17 [0, 8, 9, 14, 15, 16] ⟨rfl, trivial⟩ ⟨rfl, rfl, rfl, rfl, rfl, trivial⟩ (rfl) rfl (Nat.zero_le _) (fun k hI => ?_)
                  have hI : k ≤ x3.2.1.2.length := hI
                  refine Ex.seq ?_
                  refine Ex.regSeq (ExL.pures 3 rfl ?_)
                  refine ExL.lss rfl rfl rfl rfl rfl rfl (fun h58 => ?_) (fun h58 => ?_)
                  · refine ExL.nil ?_
                    refine Ex.cond_t rfl ?_
                    refine Ex.skip ?_
                    refine Ex.seq ?_
                    refine Ex.block ?_
                    have hkl : k < x3.2.1.2.length := by omega
                    have hW := wol (f := x3.2.2) hask hkl
                    have hw6 := hW.six
                    have hw0 := hW.ok
                    have hwg := hW.ge
                    have hwe := hW.eq
                    have hws := hW.sure
                    have hwn := hW.not_
                    refine Ex.regSeq (ExL.pures 2 rfl ?_)
                    refine ExL.free (fr_loadN rfl rfl rfl rfl rfl (SegO.whole (i := 3) rfl)) rfl rfl rfl ?_
                    refine ExL.pures 1 rfl ?_
                    refine ExL.op rfl (op_ret rfl rfl rfl (c_iWithout x3.1.2 (by assumption) _ _ (by omega) x3.2.1.2 _ _ (by omega) x3.2.2 ↑k) (fun w hw => ⟨Reads.get (Reads.row (i := 4) rfl) w hw, Reads.get (Reads.row (i := 5) rfl) w hw⟩) rfl rfl (fun x59 hx59 => ?_))
                    refine ExL.pures 5 rfl ?_
                    refine ExL.nil ?_
                    refine Ex.regSeq (ExL.pures 1 rfl ?_)
                    refine ExL.free (fr_load rfl rfl rfl rfl (CellO.blk (i := 1) rfl rfl)) rfl rfl rfl ?_
                    refine ExL.pures 1 rfl ?_
                    refine ExL.op rfl (op_ret rfl rfl rfl (c_A2Has (stV (fitsF x3.1.2 x3.2.1.2 x3.2.2) x3.2.1.2.length).kept _ _ (by omega) _) (Reads.get (Reads.row (i := 2) rfl)) rfl rfl (fun x60 hx60 => ?_))
                    refine ExL.pures 1 rfl ?_
                    refine ExL.nil ?_
                    refine Ex.seq ?_
                    refine Ex.regSeq (ExL.pures 2 rfl ?_)
                    refine ExL.bool (d := 299) rfl (fun hb61 => ?_) (fun hb61 => ?_)
                    · refine ExL.pures 2 rfl ?_
                      refine ExL.op rfl (op_ret rfl rfl rfl (c_A2Has ((sureV x3.1.2 x3.2.1.2 x3.2.2).1) _ _ (by omega) _) (Reads.get (Reads.row (i := 0) rfl)) rfl rfl (fun x62 hx62 => ?_))
                      refine ExL.pures 1 rfl ?_
                      refine ExL.nil ?_
                      refine Ex.cond rfl (fun hb63 => ?_) (fun hb63 => ?_)
                      · refine Ex.regSeq (ExL.pures 1 rfl ?_)
                        refine ExL.nil ?_
                        refine Ex.ret ?_
                        refine RetQ.mk () rfl (.tmp rfl .nil) (tB (by first | rfl | exact absurd rfl (by assumption) | exact absurd (hvl.symm.trans (by assumption)) (by decide) | exact absurd (hvf.symm.trans (by assumption)) (by decide) | exact absurd (by assumption) (hwn (by assumption)))) [] (rfl) rfl (trivial)
                      · refine Ex.skip ?_
                        refine Ex.seq ?_
                        refine Ex.regSeq (ExL.pures 2 rfl ?_)
                        refine ExL.eql rfl rfl rfl rfl rfl rfl (fun h64 => ?_) (fun h64 => ?_)
                        · refine ExL.nil ?_
                          refine Ex.cond_t rfl ?_
                          refine Ex.regSeq (ExL.pures 1 rfl ?_)
                          refine ExL.free (fr_eql_t rfl rfl rfl (hw6 (by omega))) rfl rfl rfl ?_
                          refine ExL.pures 1 rfl ?_
                          refine ExL.nil ?_
                          refine Ex.ret ?_
                          refine RetQ.mk () rfl (.tmp rfl .nil) (tB (by first | rfl | exact absurd rfl (by assumption) | exact absurd (hvl.symm.trans (by assumption)) (by decide) | exact absurd (hvf.symm.trans (by assumption)) (by decide) | exact absurd (by assumption) (hwn (by assumption)))) [] (rfl) rfl (trivial)
                        · refine ExL.nil ?_
                          refine Ex.cond_f rfl ?_
                          refine Ex.skip ?_
                          refine Ex.regSeq (ExL.pures 1 rfl ?_)
                          refine ExL.free (fr_neq_f rfl rfl rfl (by rw [hw0 (by omega)]; exact fun h => h rfl)) rfl rfl rfl ?_
                          refine ExL.pures 3 rfl ?_
                          refine ExL.free (fr_load rfl rfl rfl rfl (CellO.blk (i := 1) rfl rfl)) rfl rfl rfl ?_
                          refine ExL.free (fr_lss_f rfl rfl rfl (by have := hwg (by omega); omega)) rfl rfl rfl ?_
                          refine ExL.pures 5 rfl ?_
                          refine ExL.bool (d := 320) rfl (fun hb65 => ?_) (fun hb65 => ?_)
                          · replace hb65 := nb_t hb65
                            refine ExL.pures 2 rfl ?_
                            refine ExL.free (fr_load rfl rfl rfl rfl (CellO.blk (i := 1) rfl rfl)) rfl rfl rfl ?_
                            refine ExL.free (fr_neq_f rfl rfl rfl (fun h9 => h9 (hwe (by omega) (by assumption)))) rfl rfl rfl ?_
                            refine ExL.pures 5 rfl ?_
                            refine ExL.op rfl (op_ret rfl rfl rfl (c_A2Has ((sureV x3.1.2 x3.2.1.2 x3.2.2).1) _ _ (by omega) _) (Reads.get (Reads.row (i := 0) rfl)) rfl rfl (fun x66 hx66 => ?_))
                            refine ExL.pures 1 rfl ?_
                            refine ExL.bool (d := 331) rfl (fun hb67 => ?_) (fun hb67 => ?_)
                            · refine ExL.pures 2 rfl ?_
                              refine ExL.free (fr_load rfl rfl rfl rfl (CellO.blk (i := 1) rfl rfl)) rfl rfl rfl ?_
                              refine ExL.free (fr_neq_f rfl rfl rfl (fun h9 => h9 (hws (by omega) (by assumption)))) rfl rfl rfl ?_
                              refine ExL.pures 2 rfl ?_
                              refine ExL.nil ?_
                              refine Ex.cond_f rfl ?_
                              refine Ex.skip ?_
                              refine Ex.region (ExL.pures 1 rfl ?_)
                              refine ExL.free (by first | exact fr_add64 rfl rfl rfl (by omega) | exact fr_add rfl rfl rfl) rfl rfl rfl ?_
                              refine ExL.pures 1 rfl ?_
                              refine ExL.nil ?_
                              refine Hand.mk (k + 1) 6 [0, 1, 2, 3, 4, 5] ⟨rfl, trivial⟩ ⟨rfl, rfl, rfl, rfl, rfl, trivial⟩ (rfl) rfl (by omega) (by omega)
                            · refine ExL.pures 6 rfl ?_
                              refine ExL.nil ?_
                              refine Ex.cond_f rfl ?_
                              refine Ex.skip ?_
                              refine Ex.region (ExL.pures 1 rfl ?_)
                              refine ExL.free (by first | exact fr_add64 rfl rfl rfl (by omega) | exact fr_add rfl rfl rfl) rfl rfl rfl ?_
                              refine ExL.pures 1 rfl ?_
                              refine ExL.nil ?_
                              refine Hand.mk (k + 1) 6 [0, 1, 2, 3, 4, 5] ⟨rfl, trivial⟩ ⟨rfl, rfl, rfl, rfl, rfl, trivial⟩ (rfl) rfl (by omega) (by omega)
                          · replace hb65 := nb_f hb65
                            refine ExL.pures 9 rfl ?_
                            refine ExL.op rfl (op_ret rfl rfl rfl (c_A2Has ((sureV x3.1.2 x3.2.1.2 x3.2.2).1) _ _ (by omega) _) (Reads.get (Reads.row (i := 0) rfl)) rfl rfl (fun x68 hx68 => ?_))
                            refine ExL.pures 1 rfl ?_
                            refine ExL.bool (d := 331) rfl (fun hb69 => ?_) (fun hb69 => ?_)
                            · refine ExL.pures 2 rfl ?_
                              refine ExL.free (fr_load rfl rfl rfl rfl (CellO.blk (i := 1) rfl rfl)) rfl rfl rfl ?_
                              refine ExL.free (fr_neq_f rfl rfl rfl (fun h9 => h9 (hws (by omega) (by assumption)))) rfl rfl rfl ?_
                              refine ExL.pures 2 rfl ?_
                              refine ExL.nil ?_
                              refine Ex.cond_f rfl ?_
                              refine Ex.skip ?_
                              refine Ex.region (ExL.pures 1 rfl ?_)
                              refine ExL.free (by first | exact fr_add64 rfl rfl rfl (by omega) | exact fr_add rfl rfl rfl) rfl rfl rfl ?_
                              refine ExL.pures 1 rfl ?_
                              refine ExL.nil ?_
                              refine Hand.mk (k + 1) 6 [0, 1, 2, 3, 4, 5] ⟨rfl, trivial⟩ ⟨rfl, rfl, rfl, rfl, rfl, trivial⟩ (rfl) rfl (by omega) (by omega)
                            · refine ExL.pures 6 rfl ?_
                              refine ExL.nil ?_
                              refine Ex.cond_f rfl ?_
                              refine Ex.skip ?_
                              refine Ex.region (ExL.pures 1 rfl ?_)
                              refine ExL.free (by first | exact fr_add64 rfl rfl rfl (by omega) | exact fr_add rfl rfl rfl) rfl rfl rfl ?_
                              refine ExL.pures 1 rfl ?_
                              refine ExL.nil ?_
                              refine Hand.mk (k + 1) 6 [0, 1, 2, 3, 4, 5] ⟨rfl, trivial⟩ ⟨rfl, rfl, rfl, rfl, rfl, trivial⟩ (rfl) rfl (by omega) (by omega)
                    · refine ExL.pures 4 rfl ?_
                      refine ExL.nil ?_
                      refine Ex.cond_f rfl ?_
                      refine Ex.skip ?_
                      refine Ex.seq ?_
                      refine Ex.regSeq (ExL.pures 2 rfl ?_)
                      refine ExL.eql rfl rfl rfl rfl rfl rfl (fun h70 => ?_) (fun h70 => ?_)
                      · refine ExL.nil ?_
                        refine Ex.cond_t rfl ?_
                        refine Ex.regSeq (ExL.pures 1 rfl ?_)
                        refine ExL.free (fr_eql_t rfl rfl rfl (hw6 (by omega))) rfl rfl rfl ?_
                        refine ExL.pures 1 rfl ?_
                        refine ExL.nil ?_
                        refine Ex.ret ?_
                        refine RetQ.mk () rfl (.tmp rfl .nil) (tB (by first | rfl | exact absurd rfl (by assumption) | exact absurd (hvl.symm.trans (by assumption)) (by decide) | exact absurd (hvf.symm.trans (by assumption)) (by decide) | exact absurd (by assumption) (hwn (by assumption)))) [] (rfl) rfl (trivial)
                      · refine ExL.nil ?_
                        refine Ex.cond_f rfl ?_
                        refine Ex.skip ?_
                        refine Ex.regSeq (ExL.pures 1 rfl ?_)
                        refine ExL.free (fr_neq_f rfl rfl rfl (by rw [hw0 (by omega)]; exact fun h => h rfl)) rfl rfl rfl ?_
                        refine ExL.pures 3 rfl ?_
                        refine ExL.free (fr_load rfl rfl rfl rfl (CellO.blk (i := 1) rfl rfl)) rfl rfl rfl ?_
                        refine ExL.free (fr_lss_f rfl rfl rfl (by have := hwg (by omega); omega)) rfl rfl rfl ?_
                        refine ExL.pures 5 rfl ?_
                        refine ExL.bool (d := 320) rfl (fun hb71 => ?_) (fun hb71 => ?_)
                        · replace hb71 := nb_t hb71
                          refine ExL.pures 2 rfl ?_
                          refine ExL.free (fr_load rfl rfl rfl rfl (CellO.blk (i := 1) rfl rfl)) rfl rfl rfl ?_
                          refine ExL.free (fr_neq_f rfl rfl rfl (fun h9 => h9 (hwe (by omega) (by assumption)))) rfl rfl rfl ?_
                          refine ExL.pures 5 rfl ?_
                          refine ExL.op rfl (op_ret rfl rfl rfl (c_A2Has ((sureV x3.1.2 x3.2.1.2 x3.2.2).1) _ _ (by omega) _) (Reads.get (Reads.row (i := 0) rfl)) rfl rfl (fun x72 hx72 => ?_))
                          refine ExL.pures 1 rfl ?_
                          refine ExL.bool (d := 331) rfl (fun hb73 => ?_) (fun hb73 => ?_)
                          · refine ExL.pures 2 rfl ?_
                            refine ExL.free (fr_load rfl rfl rfl rfl (CellO.blk (i := 1) rfl rfl)) rfl rfl rfl ?_
                            refine ExL.free (fr_neq_f rfl rfl rfl (fun h9 => h9 (hws (by omega) (by assumption)))) rfl rfl rfl ?_
                            refine ExL.pures 2 rfl ?_
                            refine ExL.nil ?_
                            refine Ex.cond_f rfl ?_
                            refine Ex.skip ?_
                            refine Ex.region (ExL.pures 1 rfl ?_)
                            refine ExL.free (by first | exact fr_add64 rfl rfl rfl (by omega) | exact fr_add rfl rfl rfl) rfl rfl rfl ?_
                            refine ExL.pures 1 rfl ?_
                            refine ExL.nil ?_
                            refine Hand.mk (k + 1) 6 [0, 1, 2, 3, 4, 5] ⟨rfl, trivial⟩ ⟨rfl, rfl, rfl, rfl, rfl, trivial⟩ (rfl) rfl (by omega) (by omega)
                          · refine ExL.pures 6 rfl ?_
                            refine ExL.nil ?_
                            refine Ex.cond_f rfl ?_
                            refine Ex.skip ?_
                            refine Ex.region (ExL.pures 1 rfl ?_)
                            refine ExL.free (by first | exact fr_add64 rfl rfl rfl (by omega) | exact fr_add rfl rfl rfl) rfl rfl rfl ?_
                            refine ExL.pures 1 rfl ?_
                            refine ExL.nil ?_
                            refine Hand.mk (k + 1) 6 [0, 1, 2, 3, 4, 5] ⟨rfl, trivial⟩ ⟨rfl, rfl, rfl, rfl, rfl, trivial⟩ (rfl) rfl (by omega) (by omega)
                        · replace hb71 := nb_f hb71
                          refine ExL.pures 9 rfl ?_
                          refine ExL.op rfl (op_ret rfl rfl rfl (c_A2Has ((sureV x3.1.2 x3.2.1.2 x3.2.2).1) _ _ (by omega) _) (Reads.get (Reads.row (i := 0) rfl)) rfl rfl (fun x74 hx74 => ?_))
                          refine ExL.pures 1 rfl ?_
                          refine ExL.bool (d := 331) rfl (fun hb75 => ?_) (fun hb75 => ?_)
                          · refine ExL.pures 2 rfl ?_
                            refine ExL.free (fr_load rfl rfl rfl rfl (CellO.blk (i := 1) rfl rfl)) rfl rfl rfl ?_
                            refine ExL.free (fr_neq_f rfl rfl rfl (fun h9 => h9 (hws (by omega) (by assumption)))) rfl rfl rfl ?_
                            refine ExL.pures 2 rfl ?_
                            refine ExL.nil ?_
                            refine Ex.cond_f rfl ?_
                            refine Ex.skip ?_
                            refine Ex.region (ExL.pures 1 rfl ?_)
                            refine ExL.free (by first | exact fr_add64 rfl rfl rfl (by omega) | exact fr_add rfl rfl rfl) rfl rfl rfl ?_
                            refine ExL.pures 1 rfl ?_
                            refine ExL.nil ?_
                            refine Hand.mk (k + 1) 6 [0, 1, 2, 3, 4, 5] ⟨rfl, trivial⟩ ⟨rfl, rfl, rfl, rfl, rfl, trivial⟩ (rfl) rfl (by omega) (by omega)
                          · refine ExL.pures 6 rfl ?_
                            refine ExL.nil ?_
                            refine Ex.cond_f rfl ?_
                            refine Ex.skip ?_
                            refine Ex.region (ExL.pures 1 rfl ?_)
                            refine ExL.free (by first | exact fr_add64 rfl rfl rfl (by omega) | exact fr_add rfl rfl rfl) rfl rfl rfl ?_
                            refine ExL.pures 1 rfl ?_
                            refine ExL.nil ?_
                            refine Hand.mk (k + 1) 6 [0, 1, 2, 3, 4, 5] ⟨rfl, trivial⟩ ⟨rfl, rfl, rfl, rfl, rfl, trivial⟩ (rfl) rfl (by omega) (by omega)
                  · refine ExL.nil ?_
                    refine Ex.cond_f rfl ?_
                    refine Ex.exit ?_
                    refine Ex.regSeq (ExL.pures 1 rfl ?_)
                    refine ExL.nil ?_
                    refine Ex.ret ?_
                    refine RetQ.mk () rfl (.tmp rfl .nil) (tB (by first | rfl | exact absurd rfl (by assumption) | exact absurd (hvl.symm.trans (by assumption)) (by decide) | exact absurd (hvf.symm.trans (by assumption)) (by decide) | exact absurd (by assumption) (hwn (by assumption)))) [] (rfl) rfl (trivial)
            · refine ExL.pures 9 rfl ?_
              refine ExL.free (fr_eql rfl rfl rfl) rfl rfl rfl ?_
              refine ExL.pures 1 rfl ?_
              refine ExL.free (fr_neq_bool_eq hsix rfl rfl rfl rfl) rfl rfl rfl ?_
              refine ExL.pures 3 rfl ?_
              refine ExL.neq rfl rfl rfl rfl rfl rfl (fun h76 => ?_) (fun h76 => ?_)
              · refine ExL.pures 2 rfl ?_
                refine ExL.free (fr_neq_f rfl rfl rfl (by omega)) rfl rfl rfl ?_
                refine ExL.pures 5 rfl ?_
                refine ExL.free (fr_gtr_f rfl rfl rfl (by omega)) rfl rfl rfl ?_
                refine ExL.pures 1 rfl ?_
                refine ExL.nil ?_
                refine Ex.cond_f rfl ?_
                refine Ex.skip ?_
                refine Ex.regSeq (ExL.pures 2 rfl ?_)
                refine ExL.free (fr_loadN rfl rfl rfl rfl rfl (SegO.whole (i := 12) rfl)) rfl rfl rfl ?_
                refine ExL.op rfl (op_ret rfl rfl rfl (c_iSure x3.1.2 (by assumption) _ _ (by omega) x3.2.1.2 _ _ (by omega) x3.2.2) (fun w hw => ⟨Reads.get (Reads.row (i := 13) rfl) w hw, Reads.get (Reads.row (i := 14) rfl) w hw⟩) rfl rfl (fun x77 hx77 => ?_))
                refine ExL.pures 5 rfl ?_
                refine ExL.nil ?_
                refine Ex.regSeq (ExL.pures 2 rfl ?_)
                refine ExL.free (fr_loadN rfl rfl rfl rfl rfl (SegO.whole (i := 13) rfl)) rfl rfl rfl ?_
                refine ExL.op rfl (op_ret rfl rfl rfl (c_sSure x3.1.2 (by assumption) _ _ (by omega) x3.2.1.2 _ _ (by omega) x3.2.2) (fun w hw => ⟨Reads.get (Reads.row (i := 14) rfl) w hw, Reads.get (Reads.row (i := 15) rfl) w hw⟩) rfl rfl (fun x78 hx78 => ?_))
                refine ExL.pures 5 rfl ?_
                refine ExL.nil ?_
                refine Ex.seq ?_
                refine Ex.regSeq (ExL.pures 2 rfl ?_)
                refine ExL.free (fr_neq_f rfl rfl rfl (fun h => h rfl)) rfl rfl rfl ?_
                refine ExL.pures 2 rfl ?_
                refine ExL.free (fr_neq_f rfl rfl rfl (by rw [hsr2]; exact fun h => h rfl)) rfl rfl rfl ?_
                refine ExL.pures 4 rfl ?_
                refine ExL.op rfl (op_ret rfl rfl rfl (c_A2Same ((sureV x3.1.2 x3.2.1.2 x3.2.2).1) (x77.1) (x77.2) (by omega) ((sureV x3.1.2 x3.2.1.2 x3.2.2).1) (x78.1) (x78.2) (by omega)) (fun w hw => ⟨Reads.get (Reads.row (i := 1) rfl) w hw, Reads.get (Reads.row (i := 0) rfl) w hw⟩) rfl rfl (fun x79 hx79 => ?_))
                refine ExL.pures 2 rfl ?_
                refine ExL.nil ?_
                refine Ex.cond rfl (fun hb80 => ?_) (fun hb80 => ?_)
                · replace hb80 := nd_t hb80
                  refine Ex.regSeq (ExL.pures 1 rfl ?_)
                  refine ExL.nil ?_
                  refine Ex.ret ?_
                  refine RetQ.mk () rfl (.tmp rfl .nil) (tB (by first | rfl | exact absurd rfl (by assumption) | exact absurd (hvl.symm.trans (by assumption)) (by decide) | exact absurd (hvf.symm.trans (by assumption)) (by decide) | exact absurd (by assumption) (hwn (by assumption)))) [] (rfl) rfl (trivial)
                · replace hb80 := nd_f hb80
                  refine Ex.skip ?_
                  refine Ex.seq ?_
                  refine Ex.regSeq (ExL.pures 1 rfl ?_)
                  refine ExL.nil ?_
                  refine Ex.block ?_
                  refine Ex.loopK (X := Nat) (fun k => [(32, .int .i64 k)]) (fun k => []) (fun k => k ≤ x3.2.1.2.length) (fun k => x3.2.1.2.length - k) 0 [(5, _), (6, _), (7, _), (10, _), (30, _)] [_, _, _, _, _, _] 17 [0, 8, 9, 14, 15, 16] ⟨rfl, trivial⟩ ⟨rfl, rfl, rfl, rfl, rfl, trivial⟩ (rfl) rfl (Nat.zero_le _) (fun k hI => ?_)
                  have hI : k ≤ x3.2.1.2.length := hI
                  refine Ex.seq ?_
                  refine Ex.regSeq (ExL.pures 3 rfl ?_)
                  refine ExL.lss rfl rfl rfl rfl rfl rfl (fun h81 => ?_) (fun h81 => ?_)
                  · refine ExL.nil ?_
                    refine Ex.cond_t rfl ?_
                    refine Ex.skip ?_
                    refine Ex.seq ?_
                    refine Ex.block ?_
                    have hkl : k < x3.2.1.2.length := by omega
                    have hW := wol (f := x3.2.2) hask hkl
                    have hw6 := hW.six
                    have hw0 := hW.ok
                    have hwg := hW.ge
                    have hwe := hW.eq
                    have hws := hW.sure
                    have hwn := hW.not_
                    refine Ex.regSeq (ExL.pures 2 rfl ?_)
                    refine ExL.free (fr_loadN rfl rfl rfl rfl rfl (SegO.whole (i := 3) rfl)) rfl rfl rfl ?_
                    refine ExL.pures 1 rfl ?_
                    refine ExL.op rfl (op_ret rfl rfl rfl (c_iWithout x3.1.2 (by assumption) _ _ (by omega) x3.2.1.2 _ _ (by omega) x3.2.2 ↑k) (fun w hw => ⟨Reads.get (Reads.row (i := 4) rfl) w hw, Reads.get (Reads.row (i := 5) rfl) w hw⟩) rfl rfl (fun x82 hx82 => ?_))
                    refine ExL.pures 5 rfl ?_
                    refine ExL.nil ?_
                    refine Ex.regSeq (ExL.pures 1 rfl ?_)
                    refine ExL.free (fr_load rfl rfl rfl rfl (CellO.blk (i := 1) rfl rfl)) rfl rfl rfl ?_
                    refine ExL.pures 1 rfl ?_
                    refine ExL.op rfl (op_ret rfl rfl rfl (c_A2Has (stV (fitsF x3.1.2 x3.2.1.2 x3.2.2) x3.2.1.2.length).kept _ _ (by omega) _) (Reads.get (Reads.row (i := 2) rfl)) rfl rfl (fun x83 hx83 => ?_))
                    refine ExL.pures 1 rfl ?_
                    refine ExL.nil ?_
                    refine Ex.seq ?_
                    refine Ex.regSeq (ExL.pures 2 rfl ?_)
                    refine ExL.bool (d := 299) rfl (fun hb84 => ?_) (fun hb84 => ?_)
                    · refine ExL.pures 2 rfl ?_
                      refine ExL.op rfl (op_ret rfl rfl rfl (c_A2Has ((sureV x3.1.2 x3.2.1.2 x3.2.2).1) _ _ (by omega) _) (Reads.get (Reads.row (i := 0) rfl)) rfl rfl (fun x85 hx85 => ?_))
                      refine ExL.pures 1 rfl ?_
                      refine ExL.nil ?_
                      refine Ex.cond rfl (fun hb86 => ?_) (fun hb86 => ?_)
                      · refine Ex.regSeq (ExL.pures 1 rfl ?_)
                        refine ExL.nil ?_
                        refine Ex.ret ?_
                        refine RetQ.mk () rfl (.tmp rfl .nil) (tB (by first | rfl | exact absurd rfl (by assumption) | exact absurd (hvl.symm.trans (by assumption)) (by decide) | exact absurd (hvf.symm.trans (by assumption)) (by decide) | exact absurd (by assumption) (hwn (by assumption)))) [] (rfl) rfl (trivial)
                      · refine Ex.skip ?_
                        refine Ex.seq ?_
                        refine Ex.regSeq (ExL.pures 2 rfl ?_)
                        refine ExL.eql rfl rfl rfl rfl rfl rfl (fun h87 => ?_) (fun h87 => ?_)
                        · refine ExL.nil ?_
                          refine Ex.cond_t rfl ?_
                          refine Ex.regSeq (ExL.pures 1 rfl ?_)
                          refine ExL.free (fr_eql_t rfl rfl rfl (hw6 (by omega))) rfl rfl rfl ?_
                          refine ExL.pures 1 rfl ?_
                          refine ExL.nil ?_
                          refine Ex.ret ?_
                          refine RetQ.mk () rfl (.tmp rfl .nil) (tB (by first | rfl | exact absurd rfl (by assumption) | exact absurd (hvl.symm.trans (by assumption)) (by decide) | exact absurd (hvf.symm.trans (by assumption)) (by decide) | exact absurd (by assumption) (hwn (by assumption)))) [] (rfl) rfl (trivial)
                        · refine ExL.nil ?_
                          refine Ex.cond_f rfl ?_
                          refine Ex.skip ?_
                          refine Ex.regSeq (ExL.pures 1 rfl ?_)
                          refine ExL.free (fr_neq_f rfl rfl rfl (by rw [hw0 (by omega)]; exact fun h => h rfl)) rfl rfl rfl ?_
                          refine ExL.pures 3 rfl ?_
                          refine ExL.free (fr_load rfl rfl rfl rfl (CellO.blk (i := 1) rfl rfl)) rfl rfl rfl ?_
                          refine ExL.free (fr_lss_f rfl rfl rfl (by have := hwg (by omega); omega)) rfl rfl rfl ?_
                          refine ExL.pures 5 rfl ?_
                          refine ExL.bool (d := 320) rfl (fun hb88 => ?_) (fun hb88 => ?_)
                          · replace hb88 := nb_t hb88
                            refine ExL.pures 2 rfl ?_
                            refine ExL.free (fr_load rfl rfl rfl rfl (CellO.blk (i := 1) rfl rfl)) rfl rfl rfl ?_
                            refine ExL.free (fr_neq_f rfl rfl rfl (fun h9 => h9 (hwe (by omega) (by assumption)))) rfl rfl rfl ?_
                            refine ExL.pures 5 rfl ?_
                            refine ExL.op rfl (op_ret rfl rfl rfl (c_A2Has ((sureV x3.1.2 x3.2.1.2 x3.2.2).1) _ _ (by omega) _) (Reads.get (Reads.row (i := 0) rfl)) rfl rfl (fun x89 hx89 => ?_))
                            refine ExL.pures 1 rfl ?_
                            refine ExL.bool (d := 331) rfl (fun hb90 => ?_) (fun hb90 => ?_)
                            · refine ExL.pures 2 rfl ?_
                              refine ExL.free (fr_load rfl rfl rfl rfl (CellO.blk (i := 1) rfl rfl)) rfl rfl rfl ?_
                              refine ExL.free (fr_neq_f rfl rfl rfl (fun h9 => h9 (hws (by omega) (by assumption)))) rfl rfl rfl ?_
                              refine ExL.pures 2 rfl ?_
                              refine ExL.nil ?_
                              refine Ex.cond_f rfl ?_
                              refine Ex.skip ?_
                              refine Ex.region (ExL.pures 1 rfl ?_)
                              refine ExL.free (by first | exact fr_add64 rfl rfl rfl (by omega) | exact fr_add rfl rfl rfl) rfl rfl rfl ?_
                              refine ExL.pures 1 rfl ?_
                              refine ExL.nil ?_
                              refine Hand.mk (k + 1) 6 [0, 1, 2, 3, 4, 5] ⟨rfl, trivial⟩ ⟨rfl, rfl, rfl, rfl, rfl, trivial⟩ (rfl) rfl (by omega) (by omega)
                            · refine ExL.pures 6 rfl ?_
                              refine ExL.nil ?_
                              refine Ex.cond_f rfl ?_
                              refine Ex.skip ?_
                              refine Ex.region (ExL.pures 1 rfl ?_)
                              refine ExL.free (by first | exact fr_add64 rfl rfl rfl (by omega) | exact fr_add rfl rfl rfl) rfl rfl rfl ?_
                              refine ExL.pures 1 rfl ?_
                              refine ExL.nil ?_
                              refine Hand.mk (k + 1) 6 [0, 1, 2, 3, 4, 5] ⟨rfl, trivial⟩ ⟨rfl, rfl, rfl, rfl, rfl, trivial⟩ (rfl) rfl (by omega) (by omega)
                          · replace hb88 := nb_f hb88
                            refine ExL.pures 9 rfl ?_
                            refine ExL.op rfl (op_ret rfl rfl rfl (c_A2Has ((sureV x3.1.2 x3.2.1.2 x3.2.2).1) _ _ (by omega) _) (Reads.get (Reads.row (i := 0) rfl)) rfl rfl (fun x91 hx91 => ?_))
                            refine ExL.pures 1 rfl ?_
                            refine ExL.bool (d := 331) rfl (fun hb92 => ?_) (fun hb92 => ?_)
                            · refine ExL.pures 2 rfl ?_
                              refine ExL.free (fr_load rfl rfl rfl rfl (CellO.blk (i := 1) rfl rfl)) rfl rfl rfl ?_
                              refine ExL.free (fr_neq_f rfl rfl rfl (fun h9 => h9 (hws (by omega) (by assumption)))) rfl rfl rfl ?_
                              refine ExL.pures 2 rfl ?_
                              refine ExL.nil ?_
                              refine Ex.cond_f rfl ?_
                              refine Ex.skip ?_
                              refine Ex.region (ExL.pures 1 rfl ?_)
                              refine ExL.free (by first | exact fr_add64 rfl rfl rfl (by omega) | exact fr_add rfl rfl rfl) rfl rfl rfl ?_
                              refine ExL.pures 1 rfl ?_
                              refine ExL.nil ?_
                              refine Hand.mk (k + 1) 6 [0, 1, 2, 3, 4, 5] ⟨rfl, trivial⟩ ⟨rfl, rfl, rfl, rfl, rfl, trivial⟩ (rfl) rfl (by omega) (by omega)
                            · refine ExL.pures 6 rfl ?_
                              refine ExL.nil ?_
                              refine Ex.cond_f rfl ?_
                              refine Ex.skip ?_
                              refine Ex.region (ExL.pures 1 rfl ?_)
                              refine ExL.free (by first | exact fr_add64 rfl rfl rfl (by omega) | exact fr_add rfl rfl rfl) rfl rfl rfl ?_
                              refine ExL.pures 1 rfl ?_
                              refine ExL.nil ?_
                              refine Hand.mk (k + 1) 6 [0, 1, 2, 3, 4, 5] ⟨rfl, trivial⟩ ⟨rfl, rfl, rfl, rfl, rfl, trivial⟩ (rfl) rfl (by omega) (by omega)
                    · refine ExL.pures 4 rfl ?_
                      refine ExL.nil ?_
                      refine Ex.cond_f rfl ?_
                      refine Ex.skip ?_
                      refine Ex.seq ?_
                      refine Ex.regSeq (ExL.pures 2 rfl ?_)
                      refine ExL.eql rfl rfl rfl rfl rfl rfl (fun h93 => ?_) (fun h93 => ?_)
                      · refine ExL.nil ?_
                        refine Ex.cond_t rfl ?_
                        refine Ex.regSeq (ExL.pures 1 rfl ?_)
                        refine ExL.free (fr_eql_t rfl rfl rfl (hw6 (by omega))) rfl rfl rfl ?_
                        refine ExL.pures 1 rfl ?_
                        refine ExL.nil ?_
                        refine Ex.ret ?_
                        refine RetQ.mk () rfl (.tmp rfl .nil) (tB (by first | rfl | exact absurd rfl (by assumption) | exact absurd (hvl.symm.trans (by assumption)) (by decide) | exact absurd (hvf.symm.trans (by assumption)) (by decide) | exact absurd (by assumption) (hwn (by assumption)))) [] (rfl) rfl (trivial)
                      · refine ExL.nil ?_
                        refine Ex.cond_f rfl ?_
                        refine Ex.skip ?_
                        refine Ex.regSeq (ExL.pures 1 rfl ?_)
                        refine ExL.free (fr_neq_f rfl rfl rfl (by rw [hw0 (by omega)]; exact fun h => h rfl)) rfl rfl rfl ?_
                        refine ExL.pures 3 rfl ?_
                        refine ExL.free (fr_load rfl rfl rfl rfl (CellO.blk (i := 1) rfl rfl)) rfl rfl rfl ?_
                        refine ExL.free (fr_lss_f rfl rfl rfl (by have := hwg (by omega); omega)) rfl rfl rfl ?_
                        refine ExL.pures 5 rfl ?_
                        refine ExL.bool (d := 320) rfl (fun hb94 => ?_) (fun hb94 => ?_)
                        · replace hb94 := nb_t hb94
                          refine ExL.pures 2 rfl ?_
                          refine ExL.free (fr_load rfl rfl rfl rfl (CellO.blk (i := 1) rfl rfl)) rfl rfl rfl ?_
                          refine ExL.free (fr_neq_f rfl rfl rfl (fun h9 => h9 (hwe (by omega) (by assumption)))) rfl rfl rfl ?_
                          refine ExL.pures 5 rfl ?_
                          refine ExL.op rfl (op_ret rfl rfl rfl (c_A2Has ((sureV x3.1.2 x3.2.1.2 x3.2.2).1) _ _ (by omega) _) (Reads.get (Reads.row (i := 0) rfl)) rfl rfl (fun x95 hx95 => ?_))
                          refine ExL.pures 1 rfl ?_
                          refine ExL.bool (d := 331) rfl (fun hb96 => ?_) (fun hb96 => ?_)
                          · refine ExL.pures 2 rfl ?_
                            refine ExL.free (fr_load rfl rfl rfl rfl (CellO.blk (i := 1) rfl rfl)) rfl rfl rfl ?_
                            refine ExL.free (fr_neq_f rfl rfl rfl (fun h9 => h9 (hws (by omega) (by assumption)))) rfl rfl rfl ?_
                            refine ExL.pures 2 rfl ?_
                            refine ExL.nil ?_
                            refine Ex.cond_f rfl ?_
                            refine Ex.skip ?_
                            refine Ex.region (ExL.pures 1 rfl ?_)
                            refine ExL.free (by first | exact fr_add64 rfl rfl rfl (by omega) | exact fr_add rfl rfl rfl) rfl rfl rfl ?_
                            refine ExL.pures 1 rfl ?_
                            refine ExL.nil ?_
                            refine Hand.mk (k + 1) 6 [0, 1, 2, 3, 4, 5] ⟨rfl, trivial⟩ ⟨rfl, rfl, rfl, rfl, rfl, trivial⟩ (rfl) rfl (by omega) (by omega)
                          · refine ExL.pures 6 rfl ?_
                            refine ExL.nil ?_
                            refine Ex.cond_f rfl ?_
                            refine Ex.skip ?_
                            refine Ex.region (ExL.pures 1 rfl ?_)
                            refine ExL.free (by first | exact fr_add64 rfl rfl rfl (by omega) | exact fr_add rfl rfl rfl) rfl rfl rfl ?_
                            refine ExL.pures 1 rfl ?_
                            refine ExL.nil ?_
                            refine Hand.mk (k + 1) 6 [0, 1, 2, 3, 4, 5] ⟨rfl, trivial⟩ ⟨rfl, rfl, rfl, rfl, rfl, trivial⟩ (rfl) rfl (by omega) (by omega)
                        · replace hb94 := nb_f hb94
                          refine ExL.pures 9 rfl ?_
                          refine ExL.op rfl (op_ret rfl rfl rfl (c_A2Has ((sureV x3.1.2 x3.2.1.2 x3.2.2).1) _ _ (by omega) _) (Reads.get (Reads.row (i := 0) rfl)) rfl rfl (fun x97 hx97 => ?_))
                          refine ExL.pures 1 rfl ?_
                          refine ExL.bool (d := 331) rfl (fun hb98 => ?_) (fun hb98 => ?_)
                          · refine ExL.pures 2 rfl ?_
                            refine ExL.free (fr_load rfl rfl rfl rfl (CellO.blk (i := 1) rfl rfl)) rfl rfl rfl ?_
                            refine ExL.free (fr_neq_f rfl rfl rfl (fun h9 => h9 (hws (by omega) (by assumption)))) rfl rfl rfl ?_
                            refine ExL.pures 2 rfl ?_
                            refine ExL.nil ?_
                            refine Ex.cond_f rfl ?_
                            refine Ex.skip ?_
                            refine Ex.region (ExL.pures 1 rfl ?_)
                            refine ExL.free (by first | exact fr_add64 rfl rfl rfl (by omega) | exact fr_add rfl rfl rfl) rfl rfl rfl ?_
                            refine ExL.pures 1 rfl ?_
                            refine ExL.nil ?_
                            refine Hand.mk (k + 1) 6 [0, 1, 2, 3, 4, 5] ⟨rfl, trivial⟩ ⟨rfl, rfl, rfl, rfl, rfl, trivial⟩ (rfl) rfl (by omega) (by omega)
                          · refine ExL.pures 6 rfl ?_
                            refine ExL.nil ?_
                            refine Ex.cond_f rfl ?_
                            refine Ex.skip ?_
                            refine Ex.region (ExL.pures 1 rfl ?_)
                            refine ExL.free (by first | exact fr_add64 rfl rfl rfl (by omega) | exact fr_add rfl rfl rfl) rfl rfl rfl ?_
                            refine ExL.pures 1 rfl ?_
                            refine ExL.nil ?_
                            refine Hand.mk (k + 1) 6 [0, 1, 2, 3, 4, 5] ⟨rfl, trivial⟩ ⟨rfl, rfl, rfl, rfl, rfl, trivial⟩ (rfl) rfl (by omega) (by omega)
                  · refine ExL.nil ?_
                    refine Ex.cond_f rfl ?_
                    refine Ex.exit ?_
                    refine Ex.regSeq (ExL.pures 1 rfl ?_)
                    refine ExL.nil ?_
                    refine Ex.ret ?_
                    refine RetQ.mk () rfl (.tmp rfl .nil) (tB (by first | rfl | exact absurd rfl (by assumption) | exact absurd (hvl.symm.trans (by assumption)) (by decide) | exact absurd (hvf.symm.trans (by assumption)) (by decide) | exact absurd (by assumption) (hwn (by assumption)))) [] (rfl) rfl (trivial)
              · refine ExL.pures 8 rfl ?_
                refine ExL.free (fr_gtr_f rfl rfl rfl (by omega)) rfl rfl rfl ?_
                refine ExL.pures 1 rfl ?_
                refine ExL.nil ?_
                refine Ex.cond_f rfl ?_
                refine Ex.skip ?_
                refine Ex.regSeq (ExL.pures 2 rfl ?_)
                refine ExL.free (fr_loadN rfl rfl rfl rfl rfl (SegO.whole (i := 12) rfl)) rfl rfl rfl ?_
                refine ExL.op rfl (op_ret rfl rfl rfl (c_iSure x3.1.2 (by assumption) _ _ (by omega) x3.2.1.2 _ _ (by omega) x3.2.2) (fun w hw => ⟨Reads.get (Reads.row (i := 13) rfl) w hw, Reads.get (Reads.row (i := 14) rfl) w hw⟩) rfl rfl (fun x99 hx99 => ?_))
                refine ExL.pures 5 rfl ?_
                refine ExL.nil ?_
                refine Ex.regSeq (ExL.pures 2 rfl ?_)
                refine ExL.free (fr_loadN rfl rfl rfl rfl rfl (SegO.whole (i := 13) rfl)) rfl rfl rfl ?_
                refine ExL.op rfl (op_ret rfl rfl rfl (c_sSure x3.1.2 (by assumption) _ _ (by omega) x3.2.1.2 _ _ (by omega) x3.2.2) (fun w hw => ⟨Reads.get (Reads.row (i := 14) rfl) w hw, Reads.get (Reads.row (i := 15) rfl) w hw⟩) rfl rfl (fun x100 hx100 => ?_))
                refine ExL.pures 5 rfl ?_
                refine ExL.nil ?_
                refine Ex.seq ?_
                refine Ex.regSeq (ExL.pures 2 rfl ?_)
                refine ExL.free (fr_neq_f rfl rfl rfl (fun h => h rfl)) rfl rfl rfl ?_
                refine ExL.pures 2 rfl ?_
                refine ExL.free (fr_neq_f rfl rfl rfl (by rw [hsr2]; exact fun h => h rfl)) rfl rfl rfl ?_
                refine ExL.pures 4 rfl ?_
                refine ExL.op rfl (op_ret rfl rfl rfl (c_A2Same ((sureV x3.1.2 x3.2.1.2 x3.2.2).1) (x99.1) (x99.2) (by omega) ((sureV x3.1.2 x3.2.1.2 x3.2.2).1) (x100.1) (x100.2) (by omega)) (fun w hw => ⟨Reads.get (Reads.row (i := 1) rfl) w hw, Reads.get (Reads.row (i := 0) rfl) w hw⟩) rfl rfl (fun x101 hx101 => ?_))
                refine ExL.pures 2 rfl ?_
                refine ExL.nil ?_
                refine Ex.cond rfl (fun hb102 => ?_) (fun hb102 => ?_)
                · replace hb102 := nd_t hb102
                  refine Ex.regSeq (ExL.pures 1 rfl ?_)
                  refine ExL.nil ?_
                  refine Ex.ret ?_
                  refine RetQ.mk () rfl (.tmp rfl .nil) (tB (by first | rfl | exact absurd rfl (by assumption) | exact absurd (hvl.symm.trans (by assumption)) (by decide) | exact absurd (hvf.symm.trans (by assumption)) (by decide) | exact absurd (by assumption) (hwn (by assumption)))) [] (rfl) rfl (trivial)
                · replace hb102 := nd_f hb102
                  refine Ex.skip ?_
                  refine Ex.seq ?_
                  refine Ex.regSeq (ExL.pures 1 rfl ?_)
                  refine ExL.nil ?_
                  refine Ex.block ?_
                  refine Ex.loopK (X := Nat) (fun k => [(32, .int .i64 k)]) (fun k => []) (fun k => k ≤ x3.2.1.2.length) (fun k => x3.2.1.2.length - k) 0 [(5, _), (6, _), (7, _), (10, _), (30, _)] [_, _, _, _, _, _] 17 [0, 8, 9, 14, 15, 16] ⟨rfl, trivial⟩ ⟨rfl, rfl, rfl, rfl, rfl, trivial⟩ (rfl) rfl (Nat.zero_le _) (fun k hI => ?_)
                  have hI : k ≤ x3.2.1.2.length := hI
                  refine Ex.seq ?_
                  refine Ex.regSeq (ExL.pures 3 rfl ?_)
                  refine ExL.lss rfl rfl rfl rfl rfl rfl (fun h103 => ?_) (fun h103 => ?_)
                  · refine ExL.nil ?_
                    refine Ex.cond_t rfl ?_
                    refine Ex.skip ?_
                    refine Ex.seq ?_
                    refine Ex.block ?_
                    have hkl : k < x3.2.1.2.length := by omega
                    have hW := wol (f := x3.2.2) hask hkl
                    have hw6 := hW.six
                    have hw0 := hW.ok
                    have hwg := hW.ge
                    have hwe := hW.eq
                    have hws := hW.sure
                    have hwn := hW.not_
                    refine Ex.regSeq (ExL.pures 2 rfl ?_)
                    refine ExL.free (fr_loadN rfl rfl rfl rfl rfl (SegO.whole (i := 3) rfl)) rfl rfl rfl ?_
                    refine ExL.pures 1 rfl ?_
                    refine ExL.op rfl (op_ret rfl rfl rfl (c_iWithout x3.1.2 (by assumption) _ _ (by omega) x3.2.1.2 _ _ (by omega) x3.2.2 ↑k) (fun w hw => ⟨Reads.get (Reads.row (i := 4) rfl) w hw, Reads.get (Reads.row (i := 5) rfl) w hw⟩) rfl rfl (fun x104 hx104 => ?_))
                    refine ExL.pures 5 rfl ?_
                    refine ExL.nil ?_
                    refine Ex.regSeq (ExL.pures 1 rfl ?_)
                    refine ExL.free (fr_load rfl rfl rfl rfl (CellO.blk (i := 1) rfl rfl)) rfl rfl rfl ?_
                    refine ExL.pures 1 rfl ?_
                    refine ExL.op rfl (op_ret rfl rfl rfl (c_A2Has (stV (fitsF x3.1.2 x3.2.1.2 x3.2.2) x3.2.1.2.length).kept _ _ (by omega) _) (Reads.get (Reads.row (i := 2) rfl)) rfl rfl (fun x105 hx105 => ?_))
                    refine ExL.pures 1 rfl ?_
                    refine ExL.nil ?_
                    refine Ex.seq ?_
                    refine Ex.regSeq (ExL.pures 2 rfl ?_)
                    refine ExL.bool (d := 299) rfl (fun hb106 => ?_) (fun hb106 => ?_)
                    · refine ExL.pures 2 rfl ?_
                      refine ExL.op rfl (op_ret rfl rfl rfl (c_A2Has ((sureV x3.1.2 x3.2.1.2 x3.2.2).1) _ _ (by omega) _) (Reads.get (Reads.row (i := 0) rfl)) rfl rfl (fun x107 hx107 => ?_))
                      refine ExL.pures 1 rfl ?_
                      refine ExL.nil ?_
                      refine Ex.cond rfl (fun hb108 => ?_) (fun hb108 => ?_)
                      · refine Ex.regSeq (ExL.pures 1 rfl ?_)
                        refine ExL.nil ?_
                        refine Ex.ret ?_
                        refine RetQ.mk () rfl (.tmp rfl .nil) (tB (by first | rfl | exact absurd rfl (by assumption) | exact absurd (hvl.symm.trans (by assumption)) (by decide) | exact absurd (hvf.symm.trans (by assumption)) (by decide) | exact absurd (by assumption) (hwn (by assumption)))) [] (rfl) rfl (trivial)
                      · refine Ex.skip ?_
                        refine Ex.seq ?_
                        refine Ex.regSeq (ExL.pures 2 rfl ?_)
                        refine ExL.eql rfl rfl rfl rfl rfl rfl (fun h109 => ?_) (fun h109 => ?_)
                        · refine ExL.nil ?_
                          refine Ex.cond_t rfl ?_
                          refine Ex.regSeq (ExL.pures 1 rfl ?_)
                          refine ExL.free (fr_eql_t rfl rfl rfl (hw6 (by omega))) rfl rfl rfl ?_
                          refine ExL.pures 1 rfl ?_
                          refine ExL.nil ?_
                          refine Ex.ret ?_
                          refine RetQ.mk () rfl (.tmp rfl .nil) (tB (by first | rfl | exact absurd rfl (by assumption) | exact absurd (hvl.symm.trans (by assumption)) (by decide) | exact absurd (hvf.symm.trans (by assumption)) (by decide) | exact absurd (by assumption) (hwn (by assumption)))) [] (rfl) rfl (trivial)
                        · refine ExL.nil ?_
                          refine Ex.cond_f rfl ?_
                          refine Ex.skip ?_
                          refine Ex.regSeq (ExL.pures 1 rfl ?_)
                          refine ExL.free (fr_neq_f rfl rfl rfl (by rw [hw0 (by omega)]; exact fun h => h rfl)) rfl rfl rfl ?_
                          refine ExL.pures 3 rfl ?_
                          refine ExL.free (fr_load rfl rfl rfl rfl (CellO.blk (i := 1) rfl rfl)) rfl rfl rfl ?_
                          refine ExL.free (fr_lss_f rfl rfl rfl (by have := hwg (by omega); omega)) rfl rfl rfl ?_
                          refine ExL.pures 5 rfl ?_
                          refine ExL.bool (d := 320) rfl (fun hb110 => ?_) (fun hb110 => ?_)
                          · replace hb110 := nb_t hb110
                            refine ExL.pures 2 rfl ?_
                            refine ExL.free (fr_load rfl rfl rfl rfl (CellO.blk (i := 1) rfl rfl)) rfl rfl rfl ?_
                            refine ExL.free (fr_neq_f rfl rfl rfl (fun h9 => h9 (hwe (by omega) (by assumption)))) rfl rfl rfl ?_
                            refine ExL.pures 5 rfl ?_
                            refine ExL.op rfl (op_ret rfl rfl rfl (c_A2Has ((sureV x3.1.2 x3.2.1.2 x3.2.2).1) _ _ (by omega) _) (Reads.get (Reads.row (i := 0) rfl)) rfl rfl (fun x111 hx111 => ?_))
                            refine ExL.pures 1 rfl ?_
                            refine ExL.bool (d := 331) rfl (fun hb112 => ?_) (fun hb112 => ?_)
                            · refine ExL.pures 2 rfl ?_
                              refine ExL.free (fr_load rfl rfl rfl rfl (CellO.blk (i := 1) rfl rfl)) rfl rfl rfl ?_
                              refine ExL.free (fr_neq_f rfl rfl rfl (fun h9 => h9 (hws (by omega) (by assumption)))) rfl rfl rfl ?_
                              refine ExL.pures 2 rfl ?_
                              refine ExL.nil ?_
                              refine Ex.cond_f rfl ?_
                              refine Ex.skip ?_
                              refine Ex.region (ExL.pures 1 rfl ?_)
                              refine ExL.free (by first | exact fr_add64 rfl rfl rfl (by omega) | exact fr_add rfl rfl rfl) rfl rfl rfl ?_
                              refine ExL.pures 1 rfl ?_
                              refine ExL.nil ?_
                              refine Hand.mk (k + 1) 6 [0, 1, 2, 3, 4, 5] ⟨rfl, trivial⟩ ⟨rfl, rfl, rfl, rfl, rfl, trivial⟩ (rfl) rfl (by omega) (by omega)
                            · refine ExL.pures 6 rfl ?_
                              refine ExL.nil ?_
                              refine Ex.cond_f rfl ?_
                              refine Ex.skip ?_
                              refine Ex.region (ExL.pures 1 rfl ?_)
                              refine ExL.free (by first | exact fr_add64 rfl rfl rfl (by omega) | exact fr_add rfl rfl rfl) rfl rfl rfl ?_
                              refine ExL.pures 1 rfl ?_
                              refine ExL.nil ?_
                              refine Hand.mk (k + 1) 6 [0, 1, 2, 3, 4, 5] ⟨rfl, trivial⟩ ⟨rfl, rfl, rfl, rfl, rfl, trivial⟩ (rfl) rfl (by omega) (by omega)
                          · replace hb110 := nb_f hb110
                            refine ExL.pures 9 rfl ?_
                            refine ExL.op rfl (op_ret rfl rfl rfl (c_A2Has ((sureV x3.1.2 x3.2.1.2 x3.2.2).1) _ _ (by omega) _) (Reads.get (Reads.row (i := 0) rfl)) rfl rfl (fun x113 hx113 => ?_))
                            refine ExL.pures 1 rfl ?_
                            refine ExL.bool (d := 331) rfl (fun hb114 => ?_) (fun hb114 => ?_)
                            · refine ExL.pures 2 rfl ?_
                              refine ExL.free (fr_load rfl rfl rfl rfl (CellO.blk (i := 1) rfl rfl)) rfl rfl rfl ?_
                              refine ExL.free (fr_neq_f rfl rfl rfl (fun h9 => h9 (hws (by omega) (by assumption)))) rfl rfl rfl ?_
                              refine ExL.pures 2 rfl ?_
                              refine ExL.nil ?_
                              refine Ex.cond_f rfl ?_
                              refine Ex.skip ?_
                              refine Ex.region (ExL.pures 1 rfl ?_)
                              refine ExL.free (by first | exact fr_add64 rfl rfl rfl (by omega) | exact fr_add rfl rfl rfl) rfl rfl rfl ?_
                              refine ExL.pures 1 rfl ?_
                              refine ExL.nil ?_
                              refine Hand.mk (k + 1) 6 [0, 1, 2, 3, 4, 5] ⟨rfl, trivial⟩ ⟨rfl, rfl, rfl, rfl, rfl, trivial⟩ (rfl) rfl (by omega) (by omega)
                            · refine ExL.pures 6 rfl ?_
                              refine ExL.nil ?_
                              refine Ex.cond_f rfl ?_
                              refine Ex.skip ?_
                              refine Ex.region (ExL.pures 1 rfl ?_)
                              refine ExL.free (by first | exact fr_add64 rfl rfl rfl (by omega) | exact fr_add rfl rfl rfl) rfl rfl rfl ?_
                              refine ExL.pures 1 rfl ?_
                              refine ExL.nil ?_
                              refine Hand.mk (k + 1) 6 [0, 1, 2, 3, 4, 5] ⟨rfl, trivial⟩ ⟨rfl, rfl, rfl, rfl, rfl, trivial⟩ (rfl) rfl (by omega) (by omega)
                    · refine ExL.pures 4 rfl ?_
                      refine ExL.nil ?_
                      refine Ex.cond_f rfl ?_
                      refine Ex.skip ?_
                      refine Ex.seq ?_
                      refine Ex.regSeq (ExL.pures 2 rfl ?_)
                      refine ExL.eql rfl rfl rfl rfl rfl rfl (fun h115 => ?_) (fun h115 => ?_)
                      · refine ExL.nil ?_
                        refine Ex.cond_t rfl ?_
                        refine Ex.regSeq (ExL.pures 1 rfl ?_)
                        refine ExL.free (fr_eql_t rfl rfl rfl (hw6 (by omega))) rfl rfl rfl ?_
                        refine ExL.pures 1 rfl ?_
                        refine ExL.nil ?_
                        refine Ex.ret ?_
                        refine RetQ.mk () rfl (.tmp rfl .nil) (tB (by first | rfl | exact absurd rfl (by assumption) | exact absurd (hvl.symm.trans (by assumption)) (by decide) | exact absurd (hvf.symm.trans (by assumption)) (by decide) | exact absurd (by assumption) (hwn (by assumption)))) [] (rfl) rfl (trivial)
                      · refine ExL.nil ?_
                        refine Ex.cond_f rfl ?_
                        refine Ex.skip ?_
                        refine Ex.regSeq (ExL.pures 1 rfl ?_)
                        refine ExL.free (fr_neq_f rfl rfl rfl (by rw [hw0 (by omega)]; exact fun h => h rfl)) rfl rfl rfl ?_
                        refine ExL.pures 3 rfl ?_
                        refine ExL.free (fr_load rfl rfl rfl rfl (CellO.blk (i := 1) rfl rfl)) rfl rfl rfl ?_
                        refine ExL.free (fr_lss_f rfl rfl rfl (by have := hwg (by omega); omega)) rfl rfl rfl ?_
                        refine ExL.pures 5 rfl ?_
                        refine ExL.bool (d := 320) rfl (fun hb116 => ?_) (fun hb116 => ?_)
                        · replace hb116 := nb_t hb116
                          refine ExL.pures 2 rfl ?_
                          refine ExL.free (fr_load rfl rfl rfl rfl (CellO.blk (i := 1) rfl rfl)) rfl rfl rfl ?_
                          refine ExL.free (fr_neq_f rfl rfl rfl (fun h9 => h9 (hwe (by omega) (by assumption)))) rfl rfl rfl ?_
                          refine ExL.pures 5 rfl ?_
                          refine ExL.op rfl (op_ret rfl rfl rfl (c_A2Has ((sureV x3.1.2 x3.2.1.2 x3.2.2).1) _ _ (by omega) _) (Reads.get (Reads.row (i := 0) rfl)) rfl rfl (fun x117 hx117 => ?_))
                          refine ExL.pures 1 rfl ?_
                          refine ExL.bool (d := 331) rfl (fun hb118 => ?_) (fun hb118 => ?_)
                          · refine ExL.pures 2 rfl ?_
                            refine ExL.free (fr_load rfl rfl rfl rfl (CellO.blk (i := 1) rfl rfl)) rfl rfl rfl ?_
                            refine ExL.free (fr_neq_f rfl rfl rfl (fun h9 => h9 (hws (by omega) (by assumption)))) rfl rfl rfl ?_
                            refine ExL.pures 2 rfl ?_
                            refine ExL.nil ?_
                            refine Ex.cond_f rfl ?_
                            refine Ex.skip ?_
                            refine Ex.region (ExL.pures 1 rfl ?_)
                            refine ExL.free (by first | exact fr_add64 rfl rfl rfl (by omega) | exact fr_add rfl rfl rfl) rfl rfl rfl ?_
                            refine ExL.pures 1 rfl ?_
                            refine ExL.nil ?_
                            refine Hand.mk (k + 1) 6 [0, 1, 2, 3, 4, 5] ⟨rfl, trivial⟩ ⟨rfl, rfl, rfl, rfl, rfl, trivial⟩ (rfl) rfl (by omega) (by omega)
                          · refine ExL.pures 6 rfl ?_
                            refine ExL.nil ?_
                            refine Ex.cond_f rfl ?_
                            refine Ex.skip ?_
                            refine Ex.region (ExL.pures 1 rfl ?_)
                            refine ExL.free (by first | exact fr_add64 rfl rfl rfl (by omega) | exact fr_add rfl rfl rfl) rfl rfl rfl ?_
                            refine ExL.pures 1 rfl ?_
                            refine ExL.nil ?_
                            refine Hand.mk (k + 1) 6 [0, 1, 2, 3, 4, 5] ⟨rfl, trivial⟩ ⟨rfl, rfl, rfl, rfl, rfl, trivial⟩ (rfl) rfl (by omega) (by omega)
                        · replace hb116 := nb_f hb116
                          refine ExL.pures 9 rfl ?_
                          refine ExL.op rfl (op_ret rfl rfl rfl (c_A2Has ((sureV x3.1.2 x3.2.1.2 x3.2.2).1) _ _ (by omega) _) (Reads.get (Reads.row (i := 0) rfl)) rfl rfl (fun x119 hx119 => ?_))
                          refine ExL.pures 1 rfl ?_
                          refine ExL.bool (d := 331) rfl (fun hb120 => ?_) (fun hb120 => ?_)
                          · refine ExL.pures 2 rfl ?_
                            refine ExL.free (fr_load rfl rfl rfl rfl (CellO.blk (i := 1) rfl rfl)) rfl rfl rfl ?_
                            refine ExL.free (fr_neq_f rfl rfl rfl (fun h9 => h9 (hws (by omega) (by assumption)))) rfl rfl rfl ?_
                            refine ExL.pures 2 rfl ?_
                            refine ExL.nil ?_
                            refine Ex.cond_f rfl ?_
                            refine Ex.skip ?_
                            refine Ex.region (ExL.pures 1 rfl ?_)
                            refine ExL.free (by first | exact fr_add64 rfl rfl rfl (by omega) | exact fr_add rfl rfl rfl) rfl rfl rfl ?_
                            refine ExL.pures 1 rfl ?_
                            refine ExL.nil ?_
                            refine Hand.mk (k + 1) 6 [0, 1, 2, 3, 4, 5] ⟨rfl, trivial⟩ ⟨rfl, rfl, rfl, rfl, rfl, trivial⟩ (rfl) rfl (by omega) (by omega)
                          · refine ExL.pures 6 rfl ?_
                            refine ExL.nil ?_
                            refine Ex.cond_f rfl ?_
                            refine Ex.skip ?_
                            refine Ex.region (ExL.pures 1 rfl ?_)
                            refine ExL.free (by first | exact fr_add64 rfl rfl rfl (by omega) | exact fr_add rfl rfl rfl) rfl rfl rfl ?_
                            refine ExL.pures 1 rfl ?_
                            refine ExL.nil ?_
                            refine Hand.mk (k + 1) 6 [0, 1, 2, 3, 4, 5] ⟨rfl, trivial⟩ ⟨rfl, rfl, rfl, rfl, rfl, trivial⟩ (rfl) rfl (by omega) (by omega)
                  · refine ExL.nil ?_
                    refine Ex.cond_f rfl ?_
                    refine Ex.exit ?_
                    refine Ex.regSeq (ExL.pures 1 rfl ?_)
                    refine ExL.nil ?_
                    refine Ex.ret ?_
                    refine RetQ.mk () rfl (.tmp rfl .nil) (tB (by first | rfl | exact absurd rfl (by assumption) | exact absurd (hvl.symm.trans (by assumption)) (by decide) | exact absurd (hvf.symm.trans (by assumption)) (by decide) | exact absurd (by assumption) (hwn (by assumption)))) [] (rfl) rfl (trivial)
          · refine ExL.pures 9 rfl ?_
            refine ExL.nil ?_
            refine Ex.cond_f rfl ?_
            refine Ex.skip ?_
            refine Ex.regSeq (ExL.pures 3 rfl ?_)
            refine ExL.free (fr_loadN rfl rfl rfl rfl rfl (SegO.whole (i := 9) rfl)) rfl rfl rfl ?_
            refine ExL.op rfl (op_ret rfl rfl rfl (c_A2Story t _ _ (by omega) (by assumption) x3.1.2 (by assumption) _ _ (by omega) x3.2.1.2 _ _ (by omega) x3.2.2 (by assumption)) (fun w hw => ⟨Reads.get (Reads.old ht) w hw, Reads.get (Reads.row (i := 10) rfl) w hw, Reads.get (Reads.row (i := 11) rfl) w hw⟩) rfl rfl (fun x121 hx121 => ?_))
            obtain ⟨hq1x121, hq2x121⟩ := hx121
            have hqdx121 := dropB_len x121.1 x121.2.1.2
            refine ExL.op rfl (op_alloc rfl rfl rfl rfl rfl (fun b122 => ?_))
            refine ExL.op rfl (op_storeC (i := 0) rfl rfl rfl rfl rfl rfl rfl rfl rfl rfl ?_)
            refine ExL.nil ?_
            refine Ex.regSeq (ExL.pures 2 rfl ?_)
            refine ExL.free (fr_loadN rfl rfl rfl rfl rfl (SegO.whole (i := 12) rfl)) rfl rfl rfl ?_
            refine ExL.free (fr_loadN rfl rfl rfl rfl rfl (SegO.whole (i := 0) rfl)) rfl rfl rfl ?_
            refine ExL.op rfl (op_ret rfl rfl rfl (c_iCheckS x3.1.2 (by assumption) _ _ (by omega) x3.2.1.2 _ _ (by omega) x3.2.2 (by assumption) (⟨dropB x121.1 x121.2.1.2, x121.2.2.1.2, x121.2.2.2⟩ : VSt) ((cutJ x121.1 x121.2.1.1.1 x121.2.1.1.2)) ((x121.2.1.1.2 - backB x121.1)) (x121.2.2.1.1.1) (x121.2.2.1.1.2) (by first | assumption | (constructor <;> first | omega | (dsimp only; omega)))) (fun w hw => ⟨⟨Reads.get (Reads.row (i := 13) rfl) w hw, Reads.get (Reads.row (i := 14) rfl) w hw⟩, Reads.get (readsJ (i := 1) x121.1 rfl) w hw, Reads.get (Reads.row (i := 2) rfl) w hw⟩) rfl rfl (fun x123 hx123 => ?_))
            refine ExL.pures 5 rfl ?_
            refine ExL.nil ?_
            refine Ex.regSeq (ExL.pures 2 rfl ?_)
            refine ExL.free (fr_loadN rfl rfl rfl rfl rfl (SegO.whole (i := 12) rfl)) rfl rfl rfl ?_
            refine ExL.free (fr_loadN rfl rfl rfl rfl rfl (SegO.whole (i := 0) rfl)) rfl rfl rfl ?_
            refine ExL.op rfl (op_ret rfl rfl rfl (c_sCheckS x3.1.2 (by assumption) _ _ (by omega) x3.2.1.2 _ _ (by omega) x3.2.2 (by assumption) (⟨dropB x121.1 x121.2.1.2, x121.2.2.1.2, x121.2.2.2⟩ : VSt) ((cutJ x121.1 x121.2.1.1.1 x121.2.1.1.2)) ((x121.2.1.1.2 - backB x121.1)) (x121.2.2.1.1.1) (x121.2.2.1.1.2) (by first | assumption | (constructor <;> first | omega | (dsimp only; omega)))) (fun w hw => ⟨⟨Reads.get (Reads.row (i := 13) rfl) w hw, Reads.get (Reads.row (i := 14) rfl) w hw⟩, Reads.get (readsJ (i := 1) x121.1 rfl) w hw, Reads.get (Reads.row (i := 2) rfl) w hw⟩) rfl rfl (fun x124 hx124 => ?_))
            refine ExL.pures 5 rfl ?_
            refine ExL.nil ?_
            refine Ex.regSeq (ExL.pures 2 rfl ?_)
            refine ExL.free (fr_loadN rfl rfl rfl rfl rfl (SegO.whole (i := 12) rfl)) rfl rfl rfl ?_
            refine ExL.free (fr_loadN rfl rfl rfl rfl rfl (SegO.whole (i := 0) rfl)) rfl rfl rfl ?_
            refine ExL.op rfl (op_ret rfl rfl rfl (c_iTotalS x3.1.2 (by assumption) _ _ (by omega) x3.2.1.2 _ _ (by omega) x3.2.2 (by assumption) (⟨dropB x121.1 x121.2.1.2, x121.2.2.1.2, x121.2.2.2⟩ : VSt) ((cutJ x121.1 x121.2.1.1.1 x121.2.1.1.2)) ((x121.2.1.1.2 - backB x121.1)) (x121.2.2.1.1.1) (x121.2.2.1.1.2) (by first | assumption | (constructor <;> first | omega | (dsimp only; omega)))) (fun w hw => ⟨⟨Reads.get (Reads.row (i := 13) rfl) w hw, Reads.get (Reads.row (i := 14) rfl) w hw⟩, Reads.get (readsJ (i := 1) x121.1 rfl) w hw, Reads.get (Reads.row (i := 2) rfl) w hw⟩) rfl rfl (fun x125 hx125 => ?_))
            refine ExL.pures 7 rfl ?_
            refine ExL.nil ?_
            refine Ex.seq ?_
            have htb : toldB (fitsF x3.1.2 x3.2.1.2 x3.2.2) x3.2.1.2.length (⟨dropB x121.1 x121.2.1.2, x121.2.2.1.2, x121.2.2.2⟩ : VSt) = true → (stV (fitsF x3.1.2 x3.2.1.2 x3.2.2) x3.2.1.2.length).cost ≤ x121.2.2.2 := fun h9 => told_ge (told_t.1 h9)
            have hx9 := hx125
            have hlh := hx9.1
            have hsx : x125.2.2 = 0 ∨ x125.2.2 = 4 := by rcases hx9.2 with ⟨_, h9⟩ | ⟨_, h9⟩; exact .inl h9; exact .inr h9
            have hsix : decide (x125.2.2 = 0) = toldB (fitsF x3.1.2 x3.2.1.2 x3.2.2) x3.2.1.2.length (⟨dropB x121.1 x121.2.1.2, x121.2.2.1.2, x121.2.2.2⟩ : VSt) := by rcases hx9.2 with ⟨h8, h9⟩ | ⟨h8, h9⟩ <;> (rw [h8, h9]; rfl)
            refine Ex.regSeq (ExL.pures 2 rfl ?_)
            refine ExL.free (fr_neq_f rfl rfl rfl (fun h => h rfl)) rfl rfl rfl ?_
            refine ExL.pures 3 rfl ?_
            refine ExL.free (fr_neq_bool_same rfl rfl rfl rfl) rfl rfl rfl ?_
            refine ExL.pures 4 rfl ?_
            refine ExL.bool (d := 226) rfl (fun hb126 => ?_) (fun hb126 => ?_)
            · refine ExL.pures 1 rfl ?_
              refine ExL.free (fr_load rfl rfl rfl rfl (CellO.blk (i := 0) rfl rfl)) rfl rfl rfl ?_
              refine ExL.pures 1 rfl ?_
              refine ExL.free (fr_load rfl rfl rfl rfl (CellO.blk (i := 6) rfl rfl)) rfl rfl rfl ?_
              refine ExL.free (fr_lss_f rfl rfl rfl (fun h9 => absurd (htb (by assumption)) (Int.not_le.2 h9))) rfl rfl rfl ?_
              refine ExL.pures 4 rfl ?_
              refine ExL.free (fr_eql rfl rfl rfl) rfl rfl rfl ?_
              refine ExL.pures 1 rfl ?_
              refine ExL.free (fr_neq_bool_eq hsix rfl rfl rfl rfl) rfl rfl rfl ?_
              refine ExL.pures 3 rfl ?_
              refine ExL.neq rfl rfl rfl rfl rfl rfl (fun h127 => ?_) (fun h127 => ?_)
              · refine ExL.pures 2 rfl ?_
                refine ExL.free (fr_neq_f rfl rfl rfl (by omega)) rfl rfl rfl ?_
                refine ExL.pures 5 rfl ?_
                refine ExL.free (fr_gtr_f rfl rfl rfl (by omega)) rfl rfl rfl ?_
                refine ExL.pures 1 rfl ?_
                refine ExL.nil ?_
                refine Ex.cond_f rfl ?_
                refine Ex.skip ?_
                refine Ex.regSeq (ExL.pures 2 rfl ?_)
                refine ExL.free (fr_loadN rfl rfl rfl rfl rfl (SegO.whole (i := 12) rfl)) rfl rfl rfl ?_
                refine ExL.op rfl (op_ret rfl rfl rfl (c_iSure x3.1.2 (by assumption) _ _ (by omega) x3.2.1.2 _ _ (by omega) x3.2.2) (fun w hw => ⟨Reads.get (Reads.row (i := 13) rfl) w hw, Reads.get (Reads.row (i := 14) rfl) w hw⟩) rfl rfl (fun x128 hx128 => ?_))
                refine ExL.pures 5 rfl ?_
                refine ExL.nil ?_
                refine Ex.regSeq (ExL.pures 2 rfl ?_)
                refine ExL.free (fr_loadN rfl rfl rfl rfl rfl (SegO.whole (i := 13) rfl)) rfl rfl rfl ?_
                refine ExL.op rfl (op_ret rfl rfl rfl (c_sSure x3.1.2 (by assumption) _ _ (by omega) x3.2.1.2 _ _ (by omega) x3.2.2) (fun w hw => ⟨Reads.get (Reads.row (i := 14) rfl) w hw, Reads.get (Reads.row (i := 15) rfl) w hw⟩) rfl rfl (fun x129 hx129 => ?_))
                refine ExL.pures 5 rfl ?_
                refine ExL.nil ?_
                refine Ex.seq ?_
                refine Ex.regSeq (ExL.pures 2 rfl ?_)
                refine ExL.free (fr_neq_f rfl rfl rfl (fun h => h rfl)) rfl rfl rfl ?_
                refine ExL.pures 2 rfl ?_
                refine ExL.free (fr_neq_f rfl rfl rfl (by rw [hsr2]; exact fun h => h rfl)) rfl rfl rfl ?_
                refine ExL.pures 4 rfl ?_
                refine ExL.op rfl (op_ret rfl rfl rfl (c_A2Same ((sureV x3.1.2 x3.2.1.2 x3.2.2).1) (x128.1) (x128.2) (by omega) ((sureV x3.1.2 x3.2.1.2 x3.2.2).1) (x129.1) (x129.2) (by omega)) (fun w hw => ⟨Reads.get (Reads.row (i := 1) rfl) w hw, Reads.get (Reads.row (i := 0) rfl) w hw⟩) rfl rfl (fun x130 hx130 => ?_))
                refine ExL.pures 2 rfl ?_
                refine ExL.nil ?_
                refine Ex.cond rfl (fun hb131 => ?_) (fun hb131 => ?_)
                · replace hb131 := nd_t hb131
                  refine Ex.regSeq (ExL.pures 1 rfl ?_)
                  refine ExL.nil ?_
                  refine Ex.ret ?_
                  refine RetQ.mk () rfl (.tmp rfl .nil) (tB (by first | rfl | exact absurd rfl (by assumption) | exact absurd (hvl.symm.trans (by assumption)) (by decide) | exact absurd (hvf.symm.trans (by assumption)) (by decide) | exact absurd (by assumption) (hwn (by assumption)))) [] (rfl) rfl (trivial)
                · replace hb131 := nd_f hb131
                  refine Ex.skip ?_
                  refine Ex.seq ?_
                  refine Ex.regSeq (ExL.pures 1 rfl ?_)
                  refine ExL.nil ?_
                  refine Ex.block ?_
                  refine Ex.loopK (X := Nat) (fun k => [(32, .int .i64 k)]) (fun k => []) (fun k => k ≤ x3.2.1.2.length) (fun k => x3.2.1.2.length - k) 0 [(5, _), (6, _), (7, _), (10, _), (30, _)] [_, _, _, _, _, _] 17 [0, 8, 9, 14, 15, 16] ⟨rfl, trivial⟩ ⟨rfl, rfl, rfl, rfl, rfl, trivial⟩ (rfl) rfl (Nat.zero_le _) (fun k hI => ?_)
                  have hI : k ≤ x3.2.1.2.length := hI
                  refine Ex.seq ?_
                  refine Ex.regSeq (ExL.pures 3 rfl ?_)
                  refine ExL.lss rfl rfl rfl rfl rfl rfl (fun h132 => ?_) (fun h132 => ?_)
                  · refine ExL.nil ?_
                    refine Ex.cond_t rfl ?_
                    refine Ex.skip ?_
                    refine Ex.seq ?_
                    refine Ex.block ?_
                    have hkl : k < x3.2.1.2.length := by omega
                    have hW := wol (f := x3.2.2) hask hkl
                    have hw6 := hW.six
                    have hw0 := hW.ok
                    have hwg := hW.ge
                    have hwe := hW.eq
                    have hws := hW.sure
                    have hwn := hW.not_
                    refine Ex.regSeq (ExL.pures 2 rfl ?_)
                    refine ExL.free (fr_loadN rfl rfl rfl rfl rfl (SegO.whole (i := 3) rfl)) rfl rfl rfl ?_
                    refine ExL.pures 1 rfl ?_
                    refine ExL.op rfl (op_ret rfl rfl rfl (c_iWithout x3.1.2 (by assumption) _ _ (by omega) x3.2.1.2 _ _ (by omega) x3.2.2 ↑k) (fun w hw => ⟨Reads.get (Reads.row (i := 4) rfl) w hw, Reads.get (Reads.row (i := 5) rfl) w hw⟩) rfl rfl (fun x133 hx133 => ?_))
                    refine ExL.pures 5 rfl ?_
                    refine ExL.nil ?_
                    refine Ex.regSeq (ExL.pures 1 rfl ?_)
                    refine ExL.free (fr_load rfl rfl rfl rfl (CellO.blk (i := 1) rfl rfl)) rfl rfl rfl ?_
                    refine ExL.pures 1 rfl ?_
                    refine ExL.op rfl (op_ret rfl rfl rfl (c_A2Has (stV (fitsF x3.1.2 x3.2.1.2 x3.2.2) x3.2.1.2.length).kept _ _ (by omega) _) (Reads.get (Reads.row (i := 2) rfl)) rfl rfl (fun x134 hx134 => ?_))
                    refine ExL.pures 1 rfl ?_
                    refine ExL.nil ?_
                    refine Ex.seq ?_
                    refine Ex.regSeq (ExL.pures 2 rfl ?_)
                    refine ExL.bool (d := 299) rfl (fun hb135 => ?_) (fun hb135 => ?_)
                    · refine ExL.pures 2 rfl ?_
                      refine ExL.op rfl (op_ret rfl rfl rfl (c_A2Has ((sureV x3.1.2 x3.2.1.2 x3.2.2).1) _ _ (by omega) _) (Reads.get (Reads.row (i := 0) rfl)) rfl rfl (fun x136 hx136 => ?_))
                      refine ExL.pures 1 rfl ?_
                      refine ExL.nil ?_
                      refine Ex.cond rfl (fun hb137 => ?_) (fun hb137 => ?_)
                      · refine Ex.regSeq (ExL.pures 1 rfl ?_)
                        refine ExL.nil ?_
                        refine Ex.ret ?_
                        refine RetQ.mk () rfl (.tmp rfl .nil) (tB (by first | rfl | exact absurd rfl (by assumption) | exact absurd (hvl.symm.trans (by assumption)) (by decide) | exact absurd (hvf.symm.trans (by assumption)) (by decide) | exact absurd (by assumption) (hwn (by assumption)))) [] (rfl) rfl (trivial)
                      · refine Ex.skip ?_
                        refine Ex.seq ?_
                        refine Ex.regSeq (ExL.pures 2 rfl ?_)
                        refine ExL.eql rfl rfl rfl rfl rfl rfl (fun h138 => ?_) (fun h138 => ?_)
                        · refine ExL.nil ?_
                          refine Ex.cond_t rfl ?_
                          refine Ex.regSeq (ExL.pures 1 rfl ?_)
                          refine ExL.free (fr_eql_t rfl rfl rfl (hw6 (by omega))) rfl rfl rfl ?_
                          refine ExL.pures 1 rfl ?_
                          refine ExL.nil ?_
                          refine Ex.ret ?_
                          refine RetQ.mk () rfl (.tmp rfl .nil) (tB (by first | rfl | exact absurd rfl (by assumption) | exact absurd (hvl.symm.trans (by assumption)) (by decide) | exact absurd (hvf.symm.trans (by assumption)) (by decide) | exact absurd (by assumption) (hwn (by assumption)))) [] (rfl) rfl (trivial)
                        · refine ExL.nil ?_
                          refine Ex.cond_f rfl ?_
                          refine Ex.skip ?_
                          refine Ex.regSeq (ExL.pures 1 rfl ?_)
                          refine ExL.free (fr_neq_f rfl rfl rfl (by rw [hw0 (by omega)]; exact fun h => h rfl)) rfl rfl rfl ?_
                          refine ExL.pures 3 rfl ?_
                          refine ExL.free (fr_load rfl rfl rfl rfl (CellO.blk (i := 1) rfl rfl)) rfl rfl rfl ?_
                          refine ExL.free (fr_lss_f rfl rfl rfl (by have := hwg (by omega); omega)) rfl rfl rfl ?_
                          refine ExL.pures 5 rfl ?_
                          refine ExL.bool (d := 320) rfl (fun hb139 => ?_) (fun hb139 => ?_)
                          · replace hb139 := nb_t hb139
                            refine ExL.pures 2 rfl ?_
                            refine ExL.free (fr_load rfl rfl rfl rfl (CellO.blk (i := 1) rfl rfl)) rfl rfl rfl ?_
                            refine ExL.free (fr_neq_f rfl rfl rfl (fun h9 => h9 (hwe (by omega) (by assumption)))) rfl rfl rfl ?_
                            refine ExL.pures 5 rfl ?_
                            refine ExL.op rfl (op_ret rfl rfl rfl (c_A2Has ((sureV x3.1.2 x3.2.1.2 x3.2.2).1) _ _ (by omega) _) (Reads.get (Reads.row (i := 0) rfl)) rfl rfl (fun x140 hx140 => ?_))
                            refine ExL.pures 1 rfl ?_
                            refine ExL.bool (d := 331) rfl (fun hb141 => ?_) (fun hb141 => ?_)
                            · refine ExL.pures 2 rfl ?_
                              refine ExL.free (fr_load rfl rfl rfl rfl (CellO.blk (i := 1) rfl rfl)) rfl rfl rfl ?_
                              refine ExL.free (fr_neq_f rfl rfl rfl (fun h9 => h9 (hws (by omega) (by assumption)))) rfl rfl rfl ?_
                              refine ExL.pures 2 rfl ?_
                              refine ExL.nil ?_
                              refine Ex.cond_f rfl ?_
                              refine Ex.skip ?_
                              refine Ex.region (ExL.pures 1 rfl ?_)
                              refine ExL.free (by first | exact fr_add64 rfl rfl rfl (by omega) | exact fr_add rfl rfl rfl) rfl rfl rfl ?_
                              refine ExL.pures 1 rfl ?_
                              refine ExL.nil ?_
                              refine Hand.mk (k + 1) 6 [0, 1, 2, 3, 4, 5] ⟨rfl, trivial⟩ ⟨rfl, rfl, rfl, rfl, rfl, trivial⟩ (rfl) rfl (by omega) (by omega)
                            · refine ExL.pures 6 rfl ?_
                              refine ExL.nil ?_
                              refine Ex.cond_f rfl ?_
                              refine Ex.skip ?_
                              refine Ex.region (ExL.pures 1 rfl ?_)
                              refine ExL.free (by first | exact fr_add64 rfl rfl rfl (by omega) | exact fr_add rfl rfl rfl) rfl rfl rfl ?_
                              refine ExL.pures 1 rfl ?_
                              refine ExL.nil ?_
                              refine Hand.mk (k + 1) 6 [0, 1, 2, 3, 4, 5] ⟨rfl, trivial⟩ ⟨rfl, rfl, rfl, rfl, rfl, trivial⟩ (rfl) rfl (by omega) (by omega)
                          · replace hb139 := nb_f hb139
                            refine ExL.pures 9 rfl ?_
                            refine ExL.op rfl (op_ret rfl rfl rfl (c_A2Has ((sureV x3.1.2 x3.2.1.2 x3.2.2).1) _ _ (by omega) _) (Reads.get (Reads.row (i := 0) rfl)) rfl rfl (fun x142 hx142 => ?_))
                            refine ExL.pures 1 rfl ?_
                            refine ExL.bool (d := 331) rfl (fun hb143 => ?_) (fun hb143 => ?_)
                            · refine ExL.pures 2 rfl ?_
                              refine ExL.free (fr_load rfl rfl rfl rfl (CellO.blk (i := 1) rfl rfl)) rfl rfl rfl ?_
                              refine ExL.free (fr_neq_f rfl rfl rfl (fun h9 => h9 (hws (by omega) (by assumption)))) rfl rfl rfl ?_
                              refine ExL.pures 2 rfl ?_
                              refine ExL.nil ?_
                              refine Ex.cond_f rfl ?_
                              refine Ex.skip ?_
                              refine Ex.region (ExL.pures 1 rfl ?_)
                              refine ExL.free (by first | exact fr_add64 rfl rfl rfl (by omega) | exact fr_add rfl rfl rfl) rfl rfl rfl ?_
                              refine ExL.pures 1 rfl ?_
                              refine ExL.nil ?_
                              refine Hand.mk (k + 1) 6 [0, 1, 2, 3, 4, 5] ⟨rfl, trivial⟩ ⟨rfl, rfl, rfl, rfl, rfl, trivial⟩ (rfl) rfl (by omega) (by omega)
                            · refine ExL.pures 6 rfl ?_
                              refine ExL.nil ?_
                              refine Ex.cond_f rfl ?_
                              refine Ex.skip ?_
                              refine Ex.region (ExL.pures 1 rfl ?_)
                              refine ExL.free (by first | exact fr_add64 rfl rfl rfl (by omega) | exact fr_add rfl rfl rfl) rfl rfl rfl ?_
                              refine ExL.pures 1 rfl ?_
                              refine ExL.nil ?_
                              refine Hand.mk (k + 1) 6 [0, 1, 2, 3, 4, 5] ⟨rfl, trivial⟩ ⟨rfl, rfl, rfl, rfl, rfl, trivial⟩ (rfl) rfl (by omega) (by omega)
                    · refine ExL.pures 4 rfl ?_
                      refine ExL.nil ?_
                      refine Ex.cond_f rfl ?_
                      refine Ex.skip ?_
                      refine Ex.seq ?_
                      refine Ex.regSeq (ExL.pures 2 rfl ?_)
                      refine ExL.eql rfl rfl rfl rfl rfl rfl (fun h144 => ?_) (fun h144 => ?_)
                      · refine ExL.nil ?_
                        refine Ex.cond_t rfl ?_
                        refine Ex.regSeq (ExL.pures 1 rfl ?_)
                        refine ExL.free (fr_eql_t rfl rfl rfl (hw6 (by omega))) rfl rfl rfl ?_
                        refine ExL.pures 1 rfl ?_
                        refine ExL.nil ?_
                        refine Ex.ret ?_
                        refine RetQ.mk () rfl (.tmp rfl .nil) (tB (by first | rfl | exact absurd rfl (by assumption) | exact absurd (hvl.symm.trans (by assumption)) (by decide) | exact absurd (hvf.symm.trans (by assumption)) (by decide) | exact absurd (by assumption) (hwn (by assumption)))) [] (rfl) rfl (trivial)
                      · refine ExL.nil ?_
                        refine Ex.cond_f rfl ?_
                        refine Ex.skip ?_
                        refine Ex.regSeq (ExL.pures 1 rfl ?_)
                        refine ExL.free (fr_neq_f rfl rfl rfl (by rw [hw0 (by omega)]; exact fun h => h rfl)) rfl rfl rfl ?_
                        refine ExL.pures 3 rfl ?_
                        refine ExL.free (fr_load rfl rfl rfl rfl (CellO.blk (i := 1) rfl rfl)) rfl rfl rfl ?_
                        refine ExL.free (fr_lss_f rfl rfl rfl (by have := hwg (by omega); omega)) rfl rfl rfl ?_
                        refine ExL.pures 5 rfl ?_
                        refine ExL.bool (d := 320) rfl (fun hb145 => ?_) (fun hb145 => ?_)
                        · replace hb145 := nb_t hb145
                          refine ExL.pures 2 rfl ?_
                          refine ExL.free (fr_load rfl rfl rfl rfl (CellO.blk (i := 1) rfl rfl)) rfl rfl rfl ?_
                          refine ExL.free (fr_neq_f rfl rfl rfl (fun h9 => h9 (hwe (by omega) (by assumption)))) rfl rfl rfl ?_
                          refine ExL.pures 5 rfl ?_
                          refine ExL.op rfl (op_ret rfl rfl rfl (c_A2Has ((sureV x3.1.2 x3.2.1.2 x3.2.2).1) _ _ (by omega) _) (Reads.get (Reads.row (i := 0) rfl)) rfl rfl (fun x146 hx146 => ?_))
                          refine ExL.pures 1 rfl ?_
                          refine ExL.bool (d := 331) rfl (fun hb147 => ?_) (fun hb147 => ?_)
                          · refine ExL.pures 2 rfl ?_
                            refine ExL.free (fr_load rfl rfl rfl rfl (CellO.blk (i := 1) rfl rfl)) rfl rfl rfl ?_
                            refine ExL.free (fr_neq_f rfl rfl rfl (fun h9 => h9 (hws (by omega) (by assumption)))) rfl rfl rfl ?_
                            refine ExL.pures 2 rfl ?_
                            refine ExL.nil ?_
                            refine Ex.cond_f rfl ?_
                            refine Ex.skip ?_
                            refine Ex.region (ExL.pures 1 rfl ?_)
                            refine ExL.free (by first | exact fr_add64 rfl rfl rfl (by omega) | exact fr_add rfl rfl rfl) rfl rfl rfl ?_
                            refine ExL.pures 1 rfl ?_
                            refine ExL.nil ?_
                            refine Hand.mk (k + 1) 6 [0, 1, 2, 3, 4, 5] ⟨rfl, trivial⟩ ⟨rfl, rfl, rfl, rfl, rfl, trivial⟩ (rfl) rfl (by omega) (by omega)
                          · refine ExL.pures 6 rfl ?_
                            refine ExL.nil ?_
                            refine Ex.cond_f rfl ?_
                            refine Ex.skip ?_
                            refine Ex.region (ExL.pures 1 rfl ?_)
                            refine ExL.free (by first | exact fr_add64 rfl rfl rfl (by omega) | exact fr_add rfl rfl rfl) rfl rfl rfl ?_
                            refine ExL.pures 1 rfl ?_
                            refine ExL.nil ?_
                            refine Hand.mk (k + 1) 6 [0, 1, 2, 3, 4, 5] ⟨rfl, trivial⟩ ⟨rfl, rfl, rfl, rfl, rfl, trivial⟩ (rfl) rfl (by omega) (by omega)
                        · replace hb145 := nb_f hb145
                          refine ExL.pures 9 rfl ?_
                          refine ExL.op rfl (op_ret rfl rfl rfl (c_A2Has ((sureV x3.1.2 x3.2.1.2 x3.2.2).1) _ _ (by omega) _) (Reads.get (Reads.row (i := 0) rfl)) rfl rfl (fun x148 hx148 => ?_))
                          refine ExL.pures 1 rfl ?_
                          refine ExL.bool (d := 331) rfl (fun hb149 => ?_) (fun hb149 => ?_)
                          · refine ExL.pures 2 rfl ?_
                            refine ExL.free (fr_load rfl rfl rfl rfl (CellO.blk (i := 1) rfl rfl)) rfl rfl rfl ?_
                            refine ExL.free (fr_neq_f rfl rfl rfl (fun h9 => h9 (hws (by omega) (by assumption)))) rfl rfl rfl ?_
                            refine ExL.pures 2 rfl ?_
                            refine ExL.nil ?_
                            refine Ex.cond_f rfl ?_
                            refine Ex.skip ?_
                            refine Ex.region (ExL.pures 1 rfl ?_)
                            refine ExL.free (by first | exact fr_add64 rfl rfl rfl (by omega) | exact fr_add rfl rfl rfl) rfl rfl rfl ?_
                            refine ExL.pures 1 rfl ?_
                            refine ExL.nil ?_
                            refine Hand.mk (k + 1) 6 [0, 1, 2, 3, 4, 5] ⟨rfl, trivial⟩ ⟨rfl, rfl, rfl, rfl, rfl, trivial⟩ (rfl) rfl (by omega) (by omega)
                          · refine ExL.pures 6 rfl ?_
                            refine ExL.nil ?_
                            refine Ex.cond_f rfl ?_
                            refine Ex.skip ?_
                            refine Ex.region (ExL.pures 1 rfl ?_)
                            refine ExL.free (by first | exact fr_add64 rfl rfl rfl (by omega) | exact fr_add rfl rfl rfl) rfl rfl rfl ?_
                            refine ExL.pures 1 rfl ?_
                            refine ExL.nil ?_
                            refine Hand.mk (k + 1) 6 [0, 1, 2, 3, 4, 5] ⟨rfl, trivial⟩ ⟨rfl, rfl, rfl, rfl, rfl, trivial⟩ (rfl) rfl (by omega) (by omega)
                  · refine ExL.nil ?_
                    refine Ex.cond_f rfl ?_
                    refine Ex.exit ?_
                    refine Ex.regSeq (ExL.pures 1 rfl ?_)
                    refine ExL.nil ?_
                    refine Ex.ret ?_
                    refine RetQ.mk () rfl (.tmp rfl .nil) (tB (by first | rfl | exact absurd rfl (by assumption) | exact absurd (hvl.symm.trans (by assumption)) (by decide) | exact absurd (hvf.symm.trans (by assumption)) (by decide) | exact absurd (by assumption) (hwn (by assumption)))) [] (rfl) rfl (trivial)
              · refine ExL.pures 8 rfl ?_
                refine ExL.free (fr_gtr_f rfl rfl rfl (by omega)) rfl rfl rfl ?_
                refine ExL.pures 1 rfl ?_
                refine ExL.nil ?_
                refine Ex.cond_f rfl ?_
                refine Ex.skip ?_
                refine Ex.regSeq (ExL.pures 2 rfl ?_)
                refine ExL.free (fr_loadN rfl rfl rfl rfl rfl (SegO.whole (i := 12) rfl)) rfl rfl rfl ?_
                refine ExL.op rfl (op_ret rfl rfl rfl (c_iSure x3.1.2 (by assumption) _ _ (by omega) x3.2.1.2 _ _ (by omega) x3.2.2) (fun w hw => ⟨Reads.get (Reads.row (i := 13) rfl) w hw, Reads.get (Reads.row (i := 14) rfl) w hw⟩) rfl rfl (fun x150 hx150 => ?_))
                refine ExL.pures 5 rfl ?_
                refine ExL.nil ?_
                refine Ex.regSeq (ExL.pures 2 rfl ?_)
                refine ExL.free (fr_loadN rfl rfl rfl rfl rfl (SegO.whole (i := 13) rfl)) rfl rfl rfl ?_
                refine ExL.op rfl (op_ret rfl rfl rfl (c_sSure x3.1.2 (by assumption) _ _ (by omega) x3.2.1.2 _ _ (by omega) x3.2.2) (fun w hw => ⟨Reads.get (Reads.row (i := 14) rfl) w hw, Reads.get (Reads.row (i := 15) rfl) w hw⟩) rfl rfl (fun x151 hx151 => ?_))
                refine ExL.pures 5 rfl ?_
                refine ExL.nil ?_
                refine Ex.seq ?_
                refine Ex.regSeq (ExL.pures 2 rfl ?_)
                refine ExL.free (fr_neq_f rfl rfl rfl (fun h => h rfl)) rfl rfl rfl ?_
                refine ExL.pures 2 rfl ?_
                refine ExL.free (fr_neq_f rfl rfl rfl (by rw [hsr2]; exact fun h => h rfl)) rfl rfl rfl ?_
                refine ExL.pures 4 rfl ?_
                refine ExL.op rfl (op_ret rfl rfl rfl (c_A2Same ((sureV x3.1.2 x3.2.1.2 x3.2.2).1) (x150.1) (x150.2) (by omega) ((sureV x3.1.2 x3.2.1.2 x3.2.2).1) (x151.1) (x151.2) (by omega)) (fun w hw => ⟨Reads.get (Reads.row (i := 1) rfl) w hw, Reads.get (Reads.row (i := 0) rfl) w hw⟩) rfl rfl (fun x152 hx152 => ?_))
                refine ExL.pures 2 rfl ?_
                refine ExL.nil ?_
                refine Ex.cond rfl (fun hb153 => ?_) (fun hb153 => ?_)
                · replace hb153 := nd_t hb153
                  refine Ex.regSeq (ExL.pures 1 rfl ?_)
                  refine ExL.nil ?_
                  refine Ex.ret ?_
                  refine RetQ.mk () rfl (.tmp rfl .nil) (tB (by first | rfl | exact absurd rfl (by assumption) | exact absurd (hvl.symm.trans (by assumption)) (by decide) | exact absurd (hvf.symm.trans (by assumption)) (by decide) | exact absurd (by assumption) (hwn (by assumption)))) [] (rfl) rfl (trivial)
                · replace hb153 := nd_f hb153
                  refine Ex.skip ?_
                  refine Ex.seq ?_
                  refine Ex.regSeq (ExL.pures 1 rfl ?_)
                  refine ExL.nil ?_
                  refine Ex.block ?_
                  refine Ex.loopK (X := Nat) (fun k => [(32, .int .i64 k)]) (fun k => []) (fun k => k ≤ x3.2.1.2.length) (fun k => x3.2.1.2.length - k) 0 [(5, _), (6, _), (7, _), (10, _), (30, _)] [_, _, _, _, _, _] 17 [0, 8, 9, 14, 15, 16] ⟨rfl, trivial⟩ ⟨rfl, rfl, rfl, rfl, rfl, trivial⟩ (rfl) rfl (Nat.zero_le _) (fun k hI => ?_)
                  have hI : k ≤ x3.2.1.2.length := hI
                  refine Ex.seq ?_
                  refine Ex.regSeq (ExL.pures 3 rfl ?_)
                  refine ExL.lss rfl rfl rfl rfl rfl rfl (fun h154 => ?_) (fun h154 => ?_)
                  · refine ExL.nil ?_
                    refine Ex.cond_t rfl ?_
                    refine Ex.skip ?_
                    refine Ex.seq ?_
                    refine Ex.block ?_
                    have hkl : k < x3.2.1.2.length := by omega
                    have hW := wol (f := x3.2.2) hask hkl
                    have hw6 := hW.six
                    have hw0 := hW.ok
                    have hwg := hW.ge
                    have hwe := hW.eq
                    have hws := hW.sure
                    have hwn := hW.not_
                    refine Ex.regSeq (ExL.pures 2 rfl ?_)
                    refine ExL.free (fr_loadN rfl rfl rfl rfl rfl (SegO.whole (i := 3) rfl)) rfl rfl rfl ?_
                    refine ExL.pures 1 rfl ?_
                    refine ExL.op rfl (op_ret rfl rfl rfl (c_iWithout x3.1.2 (by assumption) _ _ (by omega) x3.2.1.2 _ _ (by omega) x3.2.2 ↑k) (fun w hw => ⟨Reads.get (Reads.row (i := 4) rfl) w hw, Reads.get (Reads.row (i := 5) rfl) w hw⟩) rfl rfl (fun x155 hx155 => ?_))
                    refine ExL.pures 5 rfl ?_
                    refine ExL.nil ?_
                    refine Ex.regSeq (ExL.pures 1 rfl ?_)
                    refine ExL.free (fr_load rfl rfl rfl rfl (CellO.blk (i := 1) rfl rfl)) rfl rfl rfl ?_
                    refine ExL.pures 1 rfl ?_
                    refine ExL.op rfl (op_ret rfl rfl rfl (c_A2Has (stV (fitsF x3.1.2 x3.2.1.2 x3.2.2) x3.2.1.2.length).kept _ _ (by omega) _) (Reads.get (Reads.row (i := 2) rfl)) rfl rfl (fun x156 hx156 => ?_))
                    refine ExL.pures 1 rfl ?_
                    refine ExL.nil ?_
                    refine Ex.seq ?_
                    refine Ex.regSeq (ExL.pures 2 rfl ?_)
                    refine ExL.bool (d := 299) rfl (fun hb157 => ?_) (fun hb157 => ?_)
                    · refine ExL.pures 2 rfl ?_
                      refine ExL.op rfl (op_ret rfl rfl rfl (c_A2Has ((sureV x3.1.2 x3.2.1.2 x3.2.2).1) _ _ (by omega) _) (Reads.get (Reads.row (i := 0) rfl)) rfl rfl (fun x158 hx158 => ?_))
                      refine ExL.pures 1 rfl ?_
                      refine ExL.nil ?_
                      refine Ex.cond rfl (fun hb159 => ?_) (fun hb159 => ?_)
                      · refine Ex.regSeq (ExL.pures 1 rfl ?_)
                        refine ExL.nil ?_
                        refine Ex.ret ?_
                        refine RetQ.mk () rfl (.tmp rfl .nil) (tB (by first | rfl | exact absurd rfl (by assumption) | exact absurd (hvl.symm.trans (by assumption)) (by decide) | exact absurd (hvf.symm.trans (by assumption)) (by decide) | exact absurd (by assumption) (hwn (by assumption)))) [] (rfl) rfl (trivial)
                      · refine Ex.skip ?_
                        refine Ex.seq ?_
                        refine Ex.regSeq (ExL.pures 2 rfl ?_)
                        refine ExL.eql rfl rfl rfl rfl rfl rfl (fun h160 => ?_) (fun h160 => ?_)
                        · refine ExL.nil ?_
                          refine Ex.cond_t rfl ?_
                          refine Ex.regSeq (ExL.pures 1 rfl ?_)
                          refine ExL.free (fr_eql_t rfl rfl rfl (hw6 (by omega))) rfl rfl rfl ?_
                          refine ExL.pures 1 rfl ?_
                          refine ExL.nil ?_
                          refine Ex.ret ?_
                          refine RetQ.mk () rfl (.tmp rfl .nil) (tB (by first | rfl | exact absurd rfl (by assumption) | exact absurd (hvl.symm.trans (by assumption)) (by decide) | exact absurd (hvf.symm.trans (by assumption)) (by decide) | exact absurd (by assumption) (hwn (by assumption)))) [] (rfl) rfl (trivial)
                        · refine ExL.nil ?_
                          refine Ex.cond_f rfl ?_
                          refine Ex.skip ?_
                          refine Ex.regSeq (ExL.pures 1 rfl ?_)
                          refine ExL.free (fr_neq_f rfl rfl rfl (by rw [hw0 (by omega)]; exact fun h => h rfl)) rfl rfl rfl ?_
                          refine ExL.pures 3 rfl ?_
                          refine ExL.free (fr_load rfl rfl rfl rfl (CellO.blk (i := 1) rfl rfl)) rfl rfl rfl ?_
                          refine ExL.free (fr_lss_f rfl rfl rfl (by have := hwg (by omega); omega)) rfl rfl rfl ?_
                          refine ExL.pures 5 rfl ?_
                          refine ExL.bool (d := 320) rfl (fun hb161 => ?_) (fun hb161 => ?_)
                          · replace hb161 := nb_t hb161
                            refine ExL.pures 2 rfl ?_
                            refine ExL.free (fr_load rfl rfl rfl rfl (CellO.blk (i := 1) rfl rfl)) rfl rfl rfl ?_
                            refine ExL.free (fr_neq_f rfl rfl rfl (fun h9 => h9 (hwe (by omega) (by assumption)))) rfl rfl rfl ?_
                            refine ExL.pures 5 rfl ?_
                            refine ExL.op rfl (op_ret rfl rfl rfl (c_A2Has ((sureV x3.1.2 x3.2.1.2 x3.2.2).1) _ _ (by omega) _) (Reads.get (Reads.row (i := 0) rfl)) rfl rfl (fun x162 hx162 => ?_))
                            refine ExL.pures 1 rfl ?_
                            refine ExL.bool (d := 331) rfl (fun hb163 => ?_) (fun hb163 => ?_)
                            · refine ExL.pures 2 rfl ?_
                              refine ExL.free (fr_load rfl rfl rfl rfl (CellO.blk (i := 1) rfl rfl)) rfl rfl rfl ?_
                              refine ExL.free (fr_neq_f rfl rfl rfl (fun h9 => h9 (hws (by omega) (by assumption)))) rfl rfl rfl ?_
                              refine ExL.pures 2 rfl ?_
                              refine ExL.nil ?_
                              refine Ex.cond_f rfl ?_
                              refine Ex.skip ?_
                              refine Ex.region (ExL.pures 1 rfl ?_)
                              refine ExL.free (by first | exact fr_add64 rfl rfl rfl (by omega) | exact fr_add rfl rfl rfl) rfl rfl rfl ?_
                              refine ExL.pures 1 rfl ?_
                              refine ExL.nil ?_
                              refine Hand.mk (k + 1) 6 [0, 1, 2, 3, 4, 5] ⟨rfl, trivial⟩ ⟨rfl, rfl, rfl, rfl, rfl, trivial⟩ (rfl) rfl (by omega) (by omega)
                            · refine ExL.pures 6 rfl ?_
                              refine ExL.nil ?_
                              refine Ex.cond_f rfl ?_
                              refine Ex.skip ?_
                              refine Ex.region (ExL.pures 1 rfl ?_)
                              refine ExL.free (by first | exact fr_add64 rfl rfl rfl (by omega) | exact fr_add rfl rfl rfl) rfl rfl rfl ?_
                              refine ExL.pures 1 rfl ?_
                              refine ExL.nil ?_
                              refine Hand.mk (k + 1) 6 [0, 1, 2, 3, 4, 5] ⟨rfl, trivial⟩ ⟨rfl, rfl, rfl, rfl, rfl, trivial⟩ (rfl) rfl (by omega) (by omega)
                          · replace hb161 := nb_f hb161
                            refine ExL.pures 9 rfl ?_
                            refine ExL.op rfl (op_ret rfl rfl rfl (c_A2Has ((sureV x3.1.2 x3.2.1.2 x3.2.2).1) _ _ (by omega) _) (Reads.get (Reads.row (i := 0) rfl)) rfl rfl (fun x164 hx164 => ?_))
                            refine ExL.pures 1 rfl ?_
                            refine ExL.bool (d := 331) rfl (fun hb165 => ?_) (fun hb165 => ?_)
                            · refine ExL.pures 2 rfl ?_
                              refine ExL.free (fr_load rfl rfl rfl rfl (CellO.blk (i := 1) rfl rfl)) rfl rfl rfl ?_
                              refine ExL.free (fr_neq_f rfl rfl rfl (fun h9 => h9 (hws (by omega) (by assumption)))) rfl rfl rfl ?_
                              refine ExL.pures 2 rfl ?_
                              refine ExL.nil ?_
                              refine Ex.cond_f rfl ?_
                              refine Ex.skip ?_
                              refine Ex.region (ExL.pures 1 rfl ?_)
                              refine ExL.free (by first | exact fr_add64 rfl rfl rfl (by omega) | exact fr_add rfl rfl rfl) rfl rfl rfl ?_
                              refine ExL.pures 1 rfl ?_
                              refine ExL.nil ?_
                              refine Hand.mk (k + 1) 6 [0, 1, 2, 3, 4, 5] ⟨rfl, trivial⟩ ⟨rfl, rfl, rfl, rfl, rfl, trivial⟩ (rfl) rfl (by omega) (by omega)
                            · refine ExL.pures 6 rfl ?_
                              refine ExL.nil ?_
                              refine Ex.cond_f rfl ?_
                              refine Ex.skip ?_
                              refine Ex.region (ExL.pures 1 rfl ?_)
                              refine ExL.free (by first | exact fr_add64 rfl rfl rfl (by omega) | exact fr_add rfl rfl rfl) rfl rfl rfl ?_
                              refine ExL.pures 1 rfl ?_
                              refine ExL.nil ?_
                              refine Hand.mk (k + 1) 6 [0, 1, 2, 3, 4, 5] ⟨rfl, trivial⟩ ⟨rfl, rfl, rfl, rfl, rfl, trivial⟩ (rfl) rfl (by omega) (by omega)
                    · refine ExL.pures 4 rfl ?_
                      refine ExL.nil ?_
                      refine Ex.cond_f rfl ?_
                      refine Ex.skip ?_
                      refine Ex.seq ?_
                      refine Ex.regSeq (ExL.pures 2 rfl ?_)
                      refine ExL.eql rfl rfl rfl rfl rfl rfl (fun h166 => ?_) (fun h166 => ?_)
                      · refine ExL.nil ?_
                        refine Ex.cond_t rfl ?_
                        refine Ex.regSeq (ExL.pures 1 rfl ?_)
                        refine ExL.free (fr_eql_t rfl rfl rfl (hw6 (by omega))) rfl rfl rfl ?_
                        refine ExL.pures 1 rfl ?_
                        refine ExL.nil ?_
                        refine Ex.ret ?_
                        refine RetQ.mk () rfl (.tmp rfl .nil) (tB (by first | rfl | exact absurd rfl (by assumption) | exact absurd (hvl.symm.trans (by assumption)) (by decide) | exact absurd (hvf.symm.trans (by assumption)) (by decide) | exact absurd (by assumption) (hwn (by assumption)))) [] (rfl) rfl (trivial)
                      · refine ExL.nil ?_
                        refine Ex.cond_f rfl ?_
                        refine Ex.skip ?_
                        refine Ex.regSeq (ExL.pures 1 rfl ?_)
                        refine ExL.free (fr_neq_f rfl rfl rfl (by rw [hw0 (by omega)]; exact fun h => h rfl)) rfl rfl rfl ?_
                        refine ExL.pures 3 rfl ?_
                        refine ExL.free (fr_load rfl rfl rfl rfl (CellO.blk (i := 1) rfl rfl)) rfl rfl rfl ?_
                        refine ExL.free (fr_lss_f rfl rfl rfl (by have := hwg (by omega); omega)) rfl rfl rfl ?_
                        refine ExL.pures 5 rfl ?_
                        refine ExL.bool (d := 320) rfl (fun hb167 => ?_) (fun hb167 => ?_)
                        · replace hb167 := nb_t hb167
                          refine ExL.pures 2 rfl ?_
                          refine ExL.free (fr_load rfl rfl rfl rfl (CellO.blk (i := 1) rfl rfl)) rfl rfl rfl ?_
                          refine ExL.free (fr_neq_f rfl rfl rfl (fun h9 => h9 (hwe (by omega) (by assumption)))) rfl rfl rfl ?_
                          refine ExL.pures 5 rfl ?_
                          refine ExL.op rfl (op_ret rfl rfl rfl (c_A2Has ((sureV x3.1.2 x3.2.1.2 x3.2.2).1) _ _ (by omega) _) (Reads.get (Reads.row (i := 0) rfl)) rfl rfl (fun x168 hx168 => ?_))
                          refine ExL.pures 1 rfl ?_
                          refine ExL.bool (d := 331) rfl (fun hb169 => ?_) (fun hb169 => ?_)
                          · refine ExL.pures 2 rfl ?_
                            refine ExL.free (fr_load rfl rfl rfl rfl (CellO.blk (i := 1) rfl rfl)) rfl rfl rfl ?_
                            refine ExL.free (fr_neq_f rfl rfl rfl (fun h9 => h9 (hws (by omega) (by assumption)))) rfl rfl rfl ?_
                            refine ExL.pures 2 rfl ?_
                            refine ExL.nil ?_
                            refine Ex.cond_f rfl ?_
                            refine Ex.skip ?_
                            refine Ex.region (ExL.pures 1 rfl ?_)
                            refine ExL.free (by first | exact fr_add64 rfl rfl rfl (by omega) | exact fr_add rfl rfl rfl) rfl rfl rfl ?_
                            refine ExL.pures 1 rfl ?_
                            refine ExL.nil ?_
                            refine Hand.mk (k + 1) 6 [0, 1, 2, 3, 4, 5] ⟨rfl, trivial⟩ ⟨rfl, rfl, rfl, rfl, rfl, trivial⟩ (rfl) rfl (by omega) (by omega)
                          · refine ExL.pures 6 rfl ?_
                            refine ExL.nil ?_
                            refine Ex.cond_f rfl ?_
                            refine Ex.skip ?_
                            refine Ex.region (ExL.pures 1 rfl ?_)
                            refine ExL.free (by first | exact fr_add64 rfl rfl rfl (by omega) | exact fr_add rfl rfl rfl) rfl rfl rfl ?_
                            refine ExL.pures 1 rfl ?_
                            refine ExL.nil ?_
                            refine Hand.mk (k + 1) 6 [0, 1, 2, 3, 4, 5] ⟨rfl, trivial⟩ ⟨rfl, rfl, rfl, rfl, rfl, trivial⟩ (rfl) rfl (by omega) (by omega)
                        · replace hb167 := nb_f hb167
                          refine ExL.pures 9 rfl ?_
                          refine ExL.op rfl (op_ret rfl rfl rfl (c_A2Has ((sureV x3.1.2 x3.2.1.2 x3.2.2).1) _ _ (by omega) _) (Reads.get (Reads.row (i := 0) rfl)) rfl rfl (fun x170 hx170 => ?_))
                          refine ExL.pures 1 rfl ?_
                          refine ExL.bool (d := 331) rfl (fun hb171 => ?_) (fun hb171 => ?_)
                          · refine ExL.pures 2 rfl ?_
                            refine ExL.free (fr_load rfl rfl rfl rfl (CellO.blk (i := 1) rfl rfl)) rfl rfl rfl ?_
                            refine ExL.free (fr_neq_f rfl rfl rfl (fun h9 => h9 (hws (by omega) (by assumption)))) rfl rfl rfl ?_
                            refine ExL.pures 2 rfl ?_
                            refine ExL.nil ?_
                            refine Ex.cond_f rfl ?_
                            refine Ex.skip ?_
                            refine Ex.region (ExL.pures 1 rfl ?_)
                            refine ExL.free (by first | exact fr_add64 rfl rfl rfl (by omega) | exact fr_add rfl rfl rfl) rfl rfl rfl ?_
                            refine ExL.pures 1 rfl ?_
                            refine ExL.nil ?_
                            refine Hand.mk (k + 1) 6 [0, 1, 2, 3, 4, 5] ⟨rfl, trivial⟩ ⟨rfl, rfl, rfl, rfl, rfl, trivial⟩ (rfl) rfl (by omega) (by omega)
                          · refine ExL.pures 6 rfl ?_
                            refine ExL.nil ?_
                            refine Ex.cond_f rfl ?_
                            refine Ex.skip ?_
                            refine Ex.region (ExL.pures 1 rfl ?_)
                            refine ExL.free (by first | exact fr_add64 rfl rfl rfl (by omega) | exact fr_add rfl rfl rfl) rfl rfl rfl ?_
                            refine ExL.pures 1 rfl ?_
                            refine ExL.nil ?_
                            refine Hand.mk (k + 1) 6 [0, 1, 2, 3, 4, 5] ⟨rfl, trivial⟩ ⟨rfl, rfl, rfl, rfl, rfl, trivial⟩ (rfl) rfl (by omega) (by omega)
                  · refine ExL.nil ?_
                    refine Ex.cond_f rfl ?_
                    refine Ex.exit ?_
                    refine Ex.regSeq (ExL.pures 1 rfl ?_)
                    refine ExL.nil ?_
                    refine Ex.ret ?_
                    refine RetQ.mk () rfl (.tmp rfl .nil) (tB (by first | rfl | exact absurd rfl (by assumption) | exact absurd (hvl.symm.trans (by assumption)) (by decide) | exact absurd (hvf.symm.trans (by assumption)) (by decide) | exact absurd (by assumption) (hwn (by assumption)))) [] (rfl) rfl (trivial)
            · refine ExL.pures 9 rfl ?_
              refine ExL.free (fr_eql rfl rfl rfl) rfl rfl rfl ?_
              refine ExL.pures 1 rfl ?_
              refine ExL.free (fr_neq_bool_eq hsix rfl rfl rfl rfl) rfl rfl rfl ?_
              refine ExL.pures 3 rfl ?_
              refine ExL.neq rfl rfl rfl rfl rfl rfl (fun h172 => ?_) (fun h172 => ?_)
              · refine ExL.pures 2 rfl ?_
                refine ExL.free (fr_neq_f rfl rfl rfl (by omega)) rfl rfl rfl ?_
                refine ExL.pures 5 rfl ?_
                refine ExL.free (fr_gtr_f rfl rfl rfl (by omega)) rfl rfl rfl ?_
                refine ExL.pures 1 rfl ?_
                refine ExL.nil ?_
                refine Ex.cond_f rfl ?_
                refine Ex.skip ?_
                refine Ex.regSeq (ExL.pures 2 rfl ?_)
                refine ExL.free (fr_loadN rfl rfl rfl rfl rfl (SegO.whole (i := 12) rfl)) rfl rfl rfl ?_
                refine ExL.op rfl (op_ret rfl rfl rfl (c_iSure x3.1.2 (by assumption) _ _ (by omega) x3.2.1.2 _ _ (by omega) x3.2.2) (fun w hw => ⟨Reads.get (Reads.row (i := 13) rfl) w hw, Reads.get (Reads.row (i := 14) rfl) w hw⟩) rfl rfl (fun x173 hx173 => ?_))
                refine ExL.pures 5 rfl ?_
                refine ExL.nil ?_
                refine Ex.regSeq (ExL.pures 2 rfl ?_)
                refine ExL.free (fr_loadN rfl rfl rfl rfl rfl (SegO.whole (i := 13) rfl)) rfl rfl rfl ?_
                refine ExL.op rfl (op_ret rfl rfl rfl (c_sSure x3.1.2 (by assumption) _ _ (by omega) x3.2.1.2 _ _ (by omega) x3.2.2) (fun w hw => ⟨Reads.get (Reads.row (i := 14) rfl) w hw, Reads.get (Reads.row (i := 15) rfl) w hw⟩) rfl rfl (fun x174 hx174 => ?_))
                refine ExL.pures 5 rfl ?_
                refine ExL.nil ?_
                refine Ex.seq ?_
                refine Ex.regSeq (ExL.pures 2 rfl ?_)
                refine ExL.free (fr_neq_f rfl rfl rfl (fun h => h rfl)) rfl rfl rfl ?_
                refine ExL.pures 2 rfl ?_
                refine ExL.free (fr_neq_f rfl rfl rfl (by rw [hsr2]; exact fun h => h rfl)) rfl rfl rfl ?_
                refine ExL.pures 4 rfl ?_
                refine ExL.op rfl (op_ret rfl rfl rfl (c_A2Same ((sureV x3.1.2 x3.2.1.2 x3.2.2).1) (x173.1) (x173.2) (by omega) ((sureV x3.1.2 x3.2.1.2 x3.2.2).1) (x174.1) (x174.2) (by omega)) (fun w hw => ⟨Reads.get (Reads.row (i := 1) rfl) w hw, Reads.get (Reads.row (i := 0) rfl) w hw⟩) rfl rfl (fun x175 hx175 => ?_))
                refine ExL.pures 2 rfl ?_
                refine ExL.nil ?_
                refine Ex.cond rfl (fun hb176 => ?_) (fun hb176 => ?_)
                · replace hb176 := nd_t hb176
                  refine Ex.regSeq (ExL.pures 1 rfl ?_)
                  refine ExL.nil ?_
                  refine Ex.ret ?_
                  refine RetQ.mk () rfl (.tmp rfl .nil) (tB (by first | rfl | exact absurd rfl (by assumption) | exact absurd (hvl.symm.trans (by assumption)) (by decide) | exact absurd (hvf.symm.trans (by assumption)) (by decide) | exact absurd (by assumption) (hwn (by assumption)))) [] (rfl) rfl (trivial)
                · replace hb176 := nd_f hb176
                  refine Ex.skip ?_
                  refine Ex.seq ?_
                  refine Ex.regSeq (ExL.pures 1 rfl ?_)
                  refine ExL.nil ?_
                  refine Ex.block ?_
                  refine Ex.loopK (X := Nat) (fun k => [(32, .int .i64 k)]) (fun k => []) (fun k => k ≤ x3.2.1.2.length) (fun k => x3.2.1.2.length - k) 0 [(5, _), (6, _), (7, _), (10, _), (30, _)] [_, _, _, _, _, _] 17 [0, 8, 9, 14, 15, 16] ⟨rfl, trivial⟩ ⟨rfl, rfl, rfl, rfl, rfl, trivial⟩ (rfl) rfl (Nat.zero_le _) (fun k hI => ?_)
                  have hI : k ≤ x3.2.1.2.length := hI
                  refine Ex.seq ?_
                  refine Ex.regSeq (ExL.pures 3 rfl ?_)
                  refine ExL.lss rfl rfl rfl rfl rfl rfl (fun h177 => ?_) (fun h177 => ?_)
                  · refine ExL.nil ?_
                    refine Ex.cond_t rfl ?_
                    refine Ex.skip ?_
                    refine Ex.seq ?_
                    refine Ex.block ?_
                    have hkl : k < x3.2.1.2.length := by omega
                    have hW := wol (f := x3.2.2) hask hkl
                    have hw6 := hW.six
                    have hw0 := hW.ok
                    have hwg := hW.ge
                    have hwe := hW.eq
                    have hws := hW.sure
                    have hwn := hW.not_
                    refine Ex.regSeq (ExL.pures 2 rfl ?_)
                    refine ExL.free (fr_loadN rfl rfl rfl rfl rfl (SegO.whole (i := 3) rfl)) rfl rfl rfl ?_
                    refine ExL.pures 1 rfl ?_
                    refine ExL.op rfl (op_ret rfl rfl rfl (c_iWithout x3.1.2 (by assumption) _ _ (by omega) x3.2.1.2 _ _ (by omega) x3.2.2 ↑k) (fun w hw => ⟨Reads.get (Reads.row (i := 4) rfl) w hw, Reads.get (Reads.row (i := 5) rfl) w hw⟩) rfl rfl (fun x178 hx178 => ?_))
                    refine ExL.pures 5 rfl ?_
                    refine ExL.nil ?_
                    refine Ex.regSeq (ExL.pures 1 rfl ?_)
                    refine ExL.free (fr_load rfl rfl rfl rfl (CellO.blk (i := 1) rfl rfl)) rfl rfl rfl ?_
                    refine ExL.pures 1 rfl ?_
                    refine ExL.op rfl (op_ret rfl rfl rfl (c_A2Has (stV (fitsF x3.1.2 x3.2.1.2 x3.2.2) x3.2.1.2.length).kept _ _ (by omega) _) (Reads.get (Reads.row (i := 2) rfl)) rfl rfl (fun x179 hx179 => ?_))
                    refine ExL.pures 1 rfl ?_
                    refine ExL.nil ?_
                    refine Ex.seq ?_
                    refine Ex.regSeq (ExL.pures 2 rfl ?_)
                    refine ExL.bool (d := 299) rfl (fun hb180 => ?_) (fun hb180 => ?_)
                    · refine ExL.pures 2 rfl ?_
                      refine ExL.op rfl (op_ret rfl rfl rfl (c_A2Has ((sureV x3.1.2 x3.2.1.2 x3.2.2).1) _ _ (by omega) _) (Reads.get (Reads.row (i := 0) rfl)) rfl rfl (fun x181 hx181 => ?_))
                      refine ExL.pures 1 rfl ?_
                      refine ExL.nil ?_
                      refine Ex.cond rfl (fun hb182 => ?_) (fun hb182 => ?_)
                      · refine Ex.regSeq (ExL.pures 1 rfl ?_)
                        refine ExL.nil ?_
                        refine Ex.ret ?_
                        refine RetQ.mk () rfl (.tmp rfl .nil) (tB (by first | rfl | exact absurd rfl (by assumption) | exact absurd (hvl.symm.trans (by assumption)) (by decide) | exact absurd (hvf.symm.trans (by assumption)) (by decide) | exact absurd (by assumption) (hwn (by assumption)))) [] (rfl) rfl (trivial)
                      · refine Ex.skip ?_
                        refine Ex.seq ?_
                        refine Ex.regSeq (ExL.pures 2 rfl ?_)
                        refine ExL.eql rfl rfl rfl rfl rfl rfl (fun h183 => ?_) (fun h183 => ?_)
                        · refine ExL.nil ?_
                          refine Ex.cond_t rfl ?_
                          refine Ex.regSeq (ExL.pures 1 rfl ?_)
                          refine ExL.free (fr_eql_t rfl rfl rfl (hw6 (by omega))) rfl rfl rfl ?_
                          refine ExL.pures 1 rfl ?_
                          refine ExL.nil ?_
                          refine Ex.ret ?_
                          refine RetQ.mk () rfl (.tmp rfl .nil) (tB (by first | rfl | exact absurd rfl (by assumption) | exact absurd (hvl.symm.trans (by assumption)) (by decide) | exact absurd (hvf.symm.trans (by assumption)) (by decide) | exact absurd (by assumption) (hwn (by assumption)))) [] (rfl) rfl (trivial)
                        · refine ExL.nil ?_
                          refine Ex.cond_f rfl ?_
                          refine Ex.skip ?_
                          refine Ex.regSeq (ExL.pures 1 rfl ?_)
                          refine ExL.free (fr_neq_f rfl rfl rfl (by rw [hw0 (by omega)]; exact fun h => h rfl)) rfl rfl rfl ?_
                          refine ExL.pures 3 rfl ?_
                          refine ExL.free (fr_load rfl rfl rfl rfl (CellO.blk (i := 1) rfl rfl)) rfl rfl rfl ?_
                          refine ExL.free (fr_lss_f rfl rfl rfl (by have := hwg (by omega); omega)) rfl rfl rfl ?_
                          refine ExL.pures 5 rfl ?_
                          refine ExL.bool (d := 320) rfl (fun hb184 => ?_) (fun hb184 => ?_)
                          · replace hb184 := nb_t hb184
                            refine ExL.pures 2 rfl ?_
                            refine ExL.free (fr_load rfl rfl rfl rfl (CellO.blk (i := 1) rfl rfl)) rfl rfl rfl ?_
                            refine ExL.free (fr_neq_f rfl rfl rfl (fun h9 => h9 (hwe (by omega) (by assumption)))) rfl rfl rfl ?_
                            refine ExL.pures 5 rfl ?_
                            refine ExL.op rfl (op_ret rfl rfl rfl (c_A2Has ((sureV x3.1.2 x3.2.1.2 x3.2.2).1) _ _ (by omega) _) (Reads.get (Reads.row (i := 0) rfl)) rfl rfl (fun x185 hx185 => ?_))
                            refine ExL.pures 1 rfl ?_
                            refine ExL.bool (d := 331) rfl (fun hb186 => ?_) (fun hb186 => ?_)
                            · refine ExL.pures 2 rfl ?_
                              refine ExL.free (fr_load rfl rfl rfl rfl (CellO.blk (i := 1) rfl rfl)) rfl rfl rfl ?_
                              refine ExL.free (fr_neq_f rfl rfl rfl (fun h9 => h9 (hws (by omega) (by assumption)))) rfl rfl rfl ?_
                              refine ExL.pures 2 rfl ?_
                              refine ExL.nil ?_
                              refine Ex.cond_f rfl ?_
                              refine Ex.skip ?_
                              refine Ex.region (ExL.pures 1 rfl ?_)
                              refine ExL.free (by first | exact fr_add64 rfl rfl rfl (by omega) | exact fr_add rfl rfl rfl) rfl rfl rfl ?_
                              refine ExL.pures 1 rfl ?_
                              refine ExL.nil ?_
                              refine Hand.mk (k + 1) 6 [0, 1, 2, 3, 4, 5] ⟨rfl, trivial⟩ ⟨rfl, rfl, rfl, rfl, rfl, trivial⟩ (rfl) rfl (by omega) (by omega)
                            · refine ExL.pures 6 rfl ?_
                              refine ExL.nil ?_
                              refine Ex.cond_f rfl ?_
                              refine Ex.skip ?_
                              refine Ex.region (ExL.pures 1 rfl ?_)
                              refine ExL.free (by first | exact fr_add64 rfl rfl rfl (by omega) | exact fr_add rfl rfl rfl) rfl rfl rfl ?_
                              refine ExL.pures 1 rfl ?_
                              refine ExL.nil ?_
                              refine Hand.mk (k + 1) 6 [0, 1, 2, 3, 4, 5] ⟨rfl, trivial⟩ ⟨rfl, rfl, rfl, rfl, rfl, trivial⟩ (rfl) rfl (by omega) (by omega)
                          · replace hb184 := nb_f hb184
                            refine ExL.pures 9 rfl ?_
                            refine ExL.op rfl (op_ret rfl rfl rfl (c_A2Has ((sureV x3.1.2 x3.2.1.2 x3.2.2).1) _ _ (by omega) _) (Reads.get (Reads.row (i := 0) rfl)) rfl rfl (fun x187 hx187 => ?_))
                            refine ExL.pures 1 rfl ?_
                            refine ExL.bool (d := 331) rfl (fun hb188 => ?_) (fun hb188 => ?_)
                            · refine ExL.pures 2 rfl ?_
                              refine ExL.free (fr_load rfl rfl rfl rfl (CellO.blk (i := 1) rfl rfl)) rfl rfl rfl ?_
                              refine ExL.free (fr_neq_f rfl rfl rfl (fun h9 => h9 (hws (by omega) (by assumption)))) rfl rfl rfl ?_
                              refine ExL.pures 2 rfl ?_
                              refine ExL.nil ?_
                              refine Ex.cond_f rfl ?_
                              refine Ex.skip ?_
                              refine Ex.region (ExL.pures 1 rfl ?_)
                              refine ExL.free (by first | exact fr_add64 rfl rfl rfl (by omega) | exact fr_add rfl rfl rfl) rfl rfl rfl ?_
                              refine ExL.pures 1 rfl ?_
                              refine ExL.nil ?_
                              refine Hand.mk (k + 1) 6 [0, 1, 2, 3, 4, 5] ⟨rfl, trivial⟩ ⟨rfl, rfl, rfl, rfl, rfl, trivial⟩ (rfl) rfl (by omega) (by omega)
                            · refine ExL.pures 6 rfl ?_
                              refine ExL.nil ?_
                              refine Ex.cond_f rfl ?_
                              refine Ex.skip ?_
                              refine Ex.region (ExL.pures 1 rfl ?_)
                              refine ExL.free (by first | exact fr_add64 rfl rfl rfl (by omega) | exact fr_add rfl rfl rfl) rfl rfl rfl ?_
                              refine ExL.pures 1 rfl ?_
                              refine ExL.nil ?_
                              refine Hand.mk (k + 1) 6 [0, 1, 2, 3, 4, 5] ⟨rfl, trivial⟩ ⟨rfl, rfl, rfl, rfl, rfl, trivial⟩ (rfl) rfl (by omega) (by omega)
                    · refine ExL.pures 4 rfl ?_
                      refine ExL.nil ?_
                      refine Ex.cond_f rfl ?_
                      refine Ex.skip ?_
                      refine Ex.seq ?_
                      refine Ex.regSeq (ExL.pures 2 rfl ?_)
                      refine ExL.eql rfl rfl rfl rfl rfl rfl (fun h189 => ?_) (fun h189 => ?_)
                      · refine ExL.nil ?_
                        refine Ex.cond_t rfl ?_
                        refine Ex.regSeq (ExL.pures 1 rfl ?_)
                        refine ExL.free (fr_eql_t rfl rfl rfl (hw6 (by omega))) rfl rfl rfl ?_
                        refine ExL.pures 1 rfl ?_
                        refine ExL.nil ?_
                        refine Ex.ret ?_
                        refine RetQ.mk () rfl (.tmp rfl .nil) (tB (by first | rfl | exact absurd rfl (by assumption) | exact absurd (hvl.symm.trans (by assumption)) (by decide) | exact absurd (hvf.symm.trans (by assumption)) (by decide) | exact absurd (by assumption) (hwn (by assumption)))) [] (rfl) rfl (trivial)
                      · refine ExL.nil ?_
                        refine Ex.cond_f rfl ?_
                        refine Ex.skip ?_
                        refine Ex.regSeq (ExL.pures 1 rfl ?_)
                        refine ExL.free (fr_neq_f rfl rfl rfl (by rw [hw0 (by omega)]; exact fun h => h rfl)) rfl rfl rfl ?_
                        refine ExL.pures 3 rfl ?_
                        refine ExL.free (fr_load rfl rfl rfl rfl (CellO.blk (i := 1) rfl rfl)) rfl rfl rfl ?_
                        refine ExL.free (fr_lss_f rfl rfl rfl (by have := hwg (by omega); omega)) rfl rfl rfl ?_
                        refine ExL.pures 5 rfl ?_
                        refine ExL.bool (d := 320) rfl (fun hb190 => ?_) (fun hb190 => ?_)
                        · replace hb190 := nb_t hb190
                          refine ExL.pures 2 rfl ?_
                          refine ExL.free (fr_load rfl rfl rfl rfl (CellO.blk (i := 1) rfl rfl)) rfl rfl rfl ?_
                          refine ExL.free (fr_neq_f rfl rfl rfl (fun h9 => h9 (hwe (by omega) (by assumption)))) rfl rfl rfl ?_
                          refine ExL.pures 5 rfl ?_
                          refine ExL.op rfl (op_ret rfl rfl rfl (c_A2Has ((sureV x3.1.2 x3.2.1.2 x3.2.2).1) _ _ (by omega) _) (Reads.get (Reads.row (i := 0) rfl)) rfl rfl (fun x191 hx191 => ?_))
                          refine ExL.pures 1 rfl ?_
                          refine ExL.bool (d := 331) rfl (fun hb192 => ?_) (fun hb192 => ?_)
                          · refine ExL.pures 2 rfl ?_
                            refine ExL.free (fr_load rfl rfl rfl rfl (CellO.blk (i := 1) rfl rfl)) rfl rfl rfl ?_
                            refine ExL.free (fr_neq_f rfl rfl rfl (fun h9 => h9 (hws (by omega) (by assumption)))) rfl rfl rfl ?_
                            refine ExL.pures 2 rfl ?_
                            refine ExL.nil ?_
                            refine Ex.cond_f rfl ?_
                            refine Ex.skip ?_
                            refine Ex.region (ExL.pures 1 rfl ?_)
                            refine ExL.free (by first | exact fr_add64 rfl rfl rfl (by omega) | exact fr_add rfl rfl rfl) rfl rfl rfl ?_
                            refine ExL.pures 1 rfl ?_
                            refine ExL.nil ?_
                            refine Hand.mk (k + 1) 6 [0, 1, 2, 3, 4, 5] ⟨rfl, trivial⟩ ⟨rfl, rfl, rfl, rfl, rfl, trivial⟩ (rfl) rfl (by omega) (by omega)
                          · refine ExL.pures 6 rfl ?_
                            refine ExL.nil ?_
                            refine Ex.cond_f rfl ?_
                            refine Ex.skip ?_
                            refine Ex.region (ExL.pures 1 rfl ?_)
                            refine ExL.free (by first | exact fr_add64 rfl rfl rfl (by omega) | exact fr_add rfl rfl rfl) rfl rfl rfl ?_
                            refine ExL.pures 1 rfl ?_
                            refine ExL.nil ?_
                            refine Hand.mk (k + 1) 6 [0, 1, 2, 3, 4, 5] ⟨rfl, trivial⟩ ⟨rfl, rfl, rfl, rfl, rfl, trivial⟩ (rfl) rfl (by omega) (by omega)
                        · replace hb190 := nb_f hb190
                          refine ExL.pures 9 rfl ?_
                          refine ExL.op rfl (op_ret rfl rfl rfl (c_A2Has ((sureV x3.1.2 x3.2.1.2 x3.2.2).1) _ _ (by omega) _) (Reads.get (Reads.row (i := 0) rfl)) rfl rfl (fun x193 hx193 => ?_))
                          refine ExL.pures 1 rfl ?_
                          refine ExL.bool (d := 331) rfl (fun hb194 => ?_) (fun hb194 => ?_)
                          · refine ExL.pures 2 rfl ?_
                            refine ExL.free (fr_load rfl rfl rfl rfl (CellO.blk (i := 1) rfl rfl)) rfl rfl rfl ?_
                            refine ExL.free (fr_neq_f rfl rfl rfl (fun h9 => h9 (hws (by omega) (by assumption)))) rfl rfl rfl ?_
                            refine ExL.pures 2 rfl ?_
                            refine ExL.nil ?_
                            refine Ex.cond_f rfl ?_
                            refine Ex.skip ?_
                            refine Ex.region (ExL.pures 1 rfl ?_)
                            refine ExL.free (by first | exact fr_add64 rfl rfl rfl (by omega) | exact fr_add rfl rfl rfl) rfl rfl rfl ?_
                            refine ExL.pures 1 rfl ?_
                            refine ExL.nil ?_
                            refine Hand.mk (k + 1) 6 [0, 1, 2, 3, 4, 5] ⟨rfl, trivial⟩ ⟨rfl, rfl, rfl, rfl, rfl, trivial⟩ (rfl) rfl (by omega) (by omega)
                          · refine ExL.pures 6 rfl ?_
                            refine ExL.nil ?_
                            refine Ex.cond_f rfl ?_
                            refine Ex.skip ?_
                            refine Ex.region (ExL.pures 1 rfl ?_)
                            refine ExL.free (by first | exact fr_add64 rfl rfl rfl (by omega) | exact fr_add rfl rfl rfl) rfl rfl rfl ?_
                            refine ExL.pures 1 rfl ?_
                            refine ExL.nil ?_
                            refine Hand.mk (k + 1) 6 [0, 1, 2, 3, 4, 5] ⟨rfl, trivial⟩ ⟨rfl, rfl, rfl, rfl, rfl, trivial⟩ (rfl) rfl (by omega) (by omega)
                  · refine ExL.nil ?_
                    refine Ex.cond_f rfl ?_
                    refine Ex.exit ?_
                    refine Ex.regSeq (ExL.pures 1 rfl ?_)
                    refine ExL.nil ?_
                    refine Ex.ret ?_
                    refine RetQ.mk () rfl (.tmp rfl .nil) (tB (by first | rfl | exact absurd rfl (by assumption) | exact absurd (hvl.symm.trans (by assumption)) (by decide) | exact absurd (hvf.symm.trans (by assumption)) (by decide) | exact absurd (by assumption) (hwn (by assumption)))) [] (rfl) rfl (trivial)
              · refine ExL.pures 8 rfl ?_
                refine ExL.free (fr_gtr_f rfl rfl rfl (by omega)) rfl rfl rfl ?_
                refine ExL.pures 1 rfl ?_
                refine ExL.nil ?_
                refine Ex.cond_f rfl ?_
                refine Ex.skip ?_
                refine Ex.regSeq (ExL.pures 2 rfl ?_)
                refine ExL.free (fr_loadN rfl rfl rfl rfl rfl (SegO.whole (i := 12) rfl)) rfl rfl rfl ?_
                refine ExL.op rfl (op_ret rfl rfl rfl (c_iSure x3.1.2 (by assumption) _ _ (by omega) x3.2.1.2 _ _ (by omega) x3.2.2) (fun w hw => ⟨Reads.get (Reads.row (i := 13) rfl) w hw, Reads.get (Reads.row (i := 14) rfl) w hw⟩) rfl rfl (fun x195 hx195 => ?_))
                refine ExL.pures 5 rfl ?_
                refine ExL.nil ?_
                refine Ex.regSeq (ExL.pures 2 rfl ?_)
                refine ExL.free (fr_loadN rfl rfl rfl rfl rfl (SegO.whole (i := 13) rfl)) rfl rfl rfl ?_
                refine ExL.op rfl (op_ret rfl rfl rfl (c_sSure x3.1.2 (by assumption) _ _ (by omega) x3.2.1.2 _ _ (by omega) x3.2.2) (fun w hw => ⟨Reads.get (Reads.row (i := 14) rfl) w hw, Reads.get (Reads.row (i := 15) rfl) w hw⟩) rfl rfl (fun x196 hx196 => ?_))
                refine ExL.pures 5 rfl ?_
                refine ExL.nil ?_
                refine Ex.seq ?_
                refine Ex.regSeq (ExL.pures 2 rfl ?_)
                refine ExL.free (fr_neq_f rfl rfl rfl (fun h => h rfl)) rfl rfl rfl ?_
                refine ExL.pures 2 rfl ?_
                refine ExL.free (fr_neq_f rfl rfl rfl (by rw [hsr2]; exact fun h => h rfl)) rfl rfl rfl ?_
                refine ExL.pures 4 rfl ?_
                refine ExL.op rfl (op_ret rfl rfl rfl (c_A2Same ((sureV x3.1.2 x3.2.1.2 x3.2.2).1) (x195.1) (x195.2) (by omega) ((sureV x3.1.2 x3.2.1.2 x3.2.2).1) (x196.1) (x196.2) (by omega)) (fun w hw => ⟨Reads.get (Reads.row (i := 1) rfl) w hw, Reads.get (Reads.row (i := 0) rfl) w hw⟩) rfl rfl (fun x197 hx197 => ?_))
                refine ExL.pures 2 rfl ?_
                refine ExL.nil ?_
                refine Ex.cond rfl (fun hb198 => ?_) (fun hb198 => ?_)
                · replace hb198 := nd_t hb198
                  refine Ex.regSeq (ExL.pures 1 rfl ?_)
                  refine ExL.nil ?_
                  refine Ex.ret ?_
                  refine RetQ.mk () rfl (.tmp rfl .nil) (tB (by first | rfl | exact absurd rfl (by assumption) | exact absurd (hvl.symm.trans (by assumption)) (by decide) | exact absurd (hvf.symm.trans (by assumption)) (by decide) | exact absurd (by assumption) (hwn (by assumption)))) [] (rfl) rfl (trivial)
                · replace hb198 := nd_f hb198
                  refine Ex.skip ?_
                  refine Ex.seq ?_
                  refine Ex.regSeq (ExL.pures 1 rfl ?_)
                  refine ExL.nil ?_
                  refine Ex.block ?_
                  refine Ex.loopK (X := Nat) (fun k => [(32, .int .i64 k)]) (fun k => []) (fun k => k ≤ x3.2.1.2.length) (fun k => x3.2.1.2.length - k) 0 [(5, _), (6, _), (7, _), (10, _), (30, _)] [_, _, _, _, _, _] 17 [0, 8, 9, 14, 15, 16] ⟨rfl, trivial⟩ ⟨rfl, rfl, rfl, rfl, rfl, trivial⟩ (rfl) rfl (Nat.zero_le _) (fun k hI => ?_)
                  have hI : k ≤ x3.2.1.2.length := hI
                  refine Ex.seq ?_
                  refine Ex.regSeq (ExL.pures 3 rfl ?_)
                  refine ExL.lss rfl rfl rfl rfl rfl rfl (fun h199 => ?_) (fun h199 => ?_)
                  · refine ExL.nil ?_
                    refine Ex.cond_t rfl ?_
                    refine Ex.skip ?_
                    refine Ex.seq ?_
                    refine Ex.block ?_
                    have hkl : k < x3.2.1.2.length := by omega
                    have hW := wol (f := x3.2.2) hask hkl
                    have hw6 := hW.six
                    have hw0 := hW.ok
                    have hwg := hW.ge
                    have hwe := hW.eq
                    have hws := hW.sure
                    have hwn := hW.not_
                    refine Ex.regSeq (ExL.pures 2 rfl ?_)
                    refine ExL.free (fr_loadN rfl rfl rfl rfl rfl (SegO.whole (i := 3) rfl)) rfl rfl rfl ?_
                    refine ExL.pures 1 rfl ?_
                    refine ExL.op rfl (op_ret rfl rfl rfl (c_iWithout x3.1.2 (by assumption) _ _ (by omega) x3.2.1.2 _ _ (by omega) x3.2.2 ↑k) (fun w hw => ⟨Reads.get (Reads.row (i := 4) rfl) w hw, Reads.get (Reads.row (i := 5) rfl) w hw⟩) rfl rfl (fun x200 hx200 => ?_))
                    refine ExL.pures 5 rfl ?_
                    refine ExL.nil ?_
                    refine Ex.regSeq (ExL.pures 1 rfl ?_)
                    refine ExL.free (fr_load rfl rfl rfl rfl (CellO.blk (i := 1) rfl rfl)) rfl rfl rfl ?_
                    refine ExL.pures 1 rfl ?_
                    refine ExL.op rfl (op_ret rfl rfl rfl (c_A2Has (stV (fitsF x3.1.2 x3.2.1.2 x3.2.2) x3.2.1.2.length).kept _ _ (by omega) _) (Reads.get (Reads.row (i := 2) rfl)) rfl rfl (fun x201 hx201 => ?_))
                    refine ExL.pures 1 rfl ?_
                    refine ExL.nil ?_
                    refine Ex.seq ?_
                    refine Ex.regSeq (ExL.pures 2 rfl ?_)
                    refine ExL.bool (d := 299) rfl (fun hb202 => ?_) (fun hb202 => ?_)
                    · refine ExL.pures 2 rfl ?_
                      refine ExL.op rfl (op_ret rfl rfl rfl (c_A2Has ((sureV x3.1.2 x3.2.1.2 x3.2.2).1) _ _ (by omega) _) (Reads.get (Reads.row (i := 0) rfl)) rfl rfl (fun x203 hx203 => ?_))
                      refine ExL.pures 1 rfl ?_
                      refine ExL.nil ?_
                      refine Ex.cond rfl (fun hb204 => ?_) (fun hb204 => ?_)
                      · refine Ex.regSeq (ExL.pures 1 rfl ?_)
                        refine ExL.nil ?_
                        refine Ex.ret ?_
                        refine RetQ.mk () rfl (.tmp rfl .nil) (tB (by first | rfl | exact absurd rfl (by assumption) | exact absurd (hvl.symm.trans (by assumption)) (by decide) | exact absurd (hvf.symm.trans (by assumption)) (by decide) | exact absurd (by assumption) (hwn (by assumption)))) [] (rfl) rfl (trivial)
                      · refine Ex.skip ?_
                        refine Ex.seq ?_
                        refine Ex.regSeq (ExL.pures 2 rfl ?_)
                        refine ExL.eql rfl rfl rfl rfl rfl rfl (fun h205 => ?_) (fun h205 => ?_)
                        · refine ExL.nil ?_
                          refine Ex.cond_t rfl ?_
                          refine Ex.regSeq (ExL.pures 1 rfl ?_)
                          refine ExL.free (fr_eql_t rfl rfl rfl (hw6 (by omega))) rfl rfl rfl ?_
                          refine ExL.pures 1 rfl ?_
                          refine ExL.nil ?_
                          refine Ex.ret ?_
                          refine RetQ.mk () rfl (.tmp rfl .nil) (tB (by first | rfl | exact absurd rfl (by assumption) | exact absurd (hvl.symm.trans (by assumption)) (by decide) | exact absurd (hvf.symm.trans (by assumption)) (by decide) | exact absurd (by assumption) (hwn (by assumption)))) [] (rfl) rfl (trivial)
                        · refine ExL.nil ?_
                          refine Ex.cond_f rfl ?_
                          refine Ex.skip ?_
                          refine Ex.regSeq (ExL.pures 1 rfl ?_)
                          refine ExL.free (fr_neq_f rfl rfl rfl (by rw [hw0 (by omega)]; exact fun h => h rfl)) rfl rfl rfl ?_
                          refine ExL.pures 3 rfl ?_
                          refine ExL.free (fr_load rfl rfl rfl rfl (CellO.blk (i := 1) rfl rfl)) rfl rfl rfl ?_
                          refine ExL.free (fr_lss_f rfl rfl rfl (by have := hwg (by omega); omega)) rfl rfl rfl ?_
                          refine ExL.pures 5 rfl ?_
                          refine ExL.bool (d := 320) rfl (fun hb206 => ?_) (fun hb206 => ?_)
                          · replace hb206 := nb_t hb206
                            refine ExL.pures 2 rfl ?_
                            refine ExL.free (fr_load rfl rfl rfl rfl (CellO.blk (i := 1) rfl rfl)) rfl rfl rfl ?_
                            refine ExL.free (fr_neq_f rfl rfl rfl (fun h9 => h9 (hwe (by omega) (by assumption)))) rfl rfl rfl ?_
                            refine ExL.pures 5 rfl ?_
                            refine ExL.op rfl (op_ret rfl rfl rfl (c_A2Has ((sureV x3.1.2 x3.2.1.2 x3.2.2).1) _ _ (by omega) _) (Reads.get (Reads.row (i := 0) rfl)) rfl rfl (fun x207 hx207 => ?_))
                            refine ExL.pures 1 rfl ?_
                            refine ExL.bool (d := 331) rfl (fun hb208 => ?_) (fun hb208 => ?_)
                            · refine ExL.pures 2 rfl ?_
                              refine ExL.free (fr_load rfl rfl rfl rfl (CellO.blk (i := 1) rfl rfl)) rfl rfl rfl ?_
                              refine ExL.free (fr_neq_f rfl rfl rfl (fun h9 => h9 (hws (by omega) (by assumption)))) rfl rfl rfl ?_
                              refine ExL.pures 2 rfl ?_
                              refine ExL.nil ?_
                              refine Ex.cond_f rfl ?_
                              refine Ex.skip ?_
                              refine Ex.region (ExL.pures 1 rfl ?_)
                              refine ExL.free (by first | exact fr_add64 rfl rfl rfl (by omega) | exact fr_add rfl rfl rfl) rfl rfl rfl ?_
                              refine ExL.pures 1 rfl ?_
                              refine ExL.nil ?_
                              refine Hand.mk (k + 1) 6 [0, 1, 2, 3, 4, 5] ⟨rfl, trivial⟩ ⟨rfl, rfl, rfl, rfl, rfl, trivial⟩ (rfl) rfl (by omega) (by omega)
                            · refine ExL.pures 6 rfl ?_
                              refine ExL.nil ?_
                              refine Ex.cond_f rfl ?_
                              refine Ex.skip ?_
                              refine Ex.region (ExL.pures 1 rfl ?_)
                              refine ExL.free (by first | exact fr_add64 rfl rfl rfl (by omega) | exact fr_add rfl rfl rfl) rfl rfl rfl ?_
                              refine ExL.pures 1 rfl ?_
                              refine ExL.nil ?_
                              refine Hand.mk (k + 1) 6 [0, 1, 2, 3, 4, 5] ⟨rfl, trivial⟩ ⟨rfl, rfl, rfl, rfl, rfl, trivial⟩ (rfl) rfl (by omega) (by omega)
                          · replace hb206 := nb_f hb206
                            refine ExL.pures 9 rfl ?_
                            refine ExL.op rfl (op_ret rfl rfl rfl (c_A2Has ((sureV x3.1.2 x3.2.1.2 x3.2.2).1) _ _ (by omega) _) (Reads.get (Reads.row (i := 0) rfl)) rfl rfl (fun x209 hx209 => ?_))
                            refine ExL.pures 1 rfl ?_
                            refine ExL.bool (d := 331) rfl (fun hb210 => ?_) (fun hb210 => ?_)
                            · refine ExL.pures 2 rfl ?_
                              refine ExL.free (fr_load rfl rfl rfl rfl (CellO.blk (i := 1) rfl rfl)) rfl rfl rfl ?_
                              refine ExL.free (fr_neq_f rfl rfl rfl (fun h9 => h9 (hws (by omega) (by assumption)))) rfl rfl rfl ?_
                              refine ExL.pures 2 rfl ?_
                              refine ExL.nil ?_
                              refine Ex.cond_f rfl ?_
                              refine Ex.skip ?_
                              refine Ex.region (ExL.pures 1 rfl ?_)
                              refine ExL.free (by first | exact fr_add64 rfl rfl rfl (by omega) | exact fr_add rfl rfl rfl) rfl rfl rfl ?_
                              refine ExL.pures 1 rfl ?_
                              refine ExL.nil ?_
                              refine Hand.mk (k + 1) 6 [0, 1, 2, 3, 4, 5] ⟨rfl, trivial⟩ ⟨rfl, rfl, rfl, rfl, rfl, trivial⟩ (rfl) rfl (by omega) (by omega)
                            · refine ExL.pures 6 rfl ?_
                              refine ExL.nil ?_
                              refine Ex.cond_f rfl ?_
                              refine Ex.skip ?_
                              refine Ex.region (ExL.pures 1 rfl ?_)
                              refine ExL.free (by first | exact fr_add64 rfl rfl rfl (by omega) | exact fr_add rfl rfl rfl) rfl rfl rfl ?_
                              refine ExL.pures 1 rfl ?_
                              refine ExL.nil ?_
                              refine Hand.mk (k + 1) 6 [0, 1, 2, 3, 4, 5] ⟨rfl, trivial⟩ ⟨rfl, rfl, rfl, rfl, rfl, trivial⟩ (rfl) rfl (by omega) (by omega)
                    · refine ExL.pures 4 rfl ?_
                      refine ExL.nil ?_
                      refine Ex.cond_f rfl ?_
                      refine Ex.skip ?_
                      refine Ex.seq ?_
                      refine Ex.regSeq (ExL.pures 2 rfl ?_)
                      refine ExL.eql rfl rfl rfl rfl rfl rfl (fun h211 => ?_) (fun h211 => ?_)
                      · refine ExL.nil ?_
                        refine Ex.cond_t rfl ?_
                        refine Ex.regSeq (ExL.pures 1 rfl ?_)
                        refine ExL.free (fr_eql_t rfl rfl rfl (hw6 (by omega))) rfl rfl rfl ?_
                        refine ExL.pures 1 rfl ?_
                        refine ExL.nil ?_
                        refine Ex.ret ?_
                        refine RetQ.mk () rfl (.tmp rfl .nil) (tB (by first | rfl | exact absurd rfl (by assumption) | exact absurd (hvl.symm.trans (by assumption)) (by decide) | exact absurd (hvf.symm.trans (by assumption)) (by decide) | exact absurd (by assumption) (hwn (by assumption)))) [] (rfl) rfl (trivial)
                      · refine ExL.nil ?_
                        refine Ex.cond_f rfl ?_
                        refine Ex.skip ?_
                        refine Ex.regSeq (ExL.pures 1 rfl ?_)
                        refine ExL.free (fr_neq_f rfl rfl rfl (by rw [hw0 (by omega)]; exact fun h => h rfl)) rfl rfl rfl ?_
                        refine ExL.pures 3 rfl ?_
                        refine ExL.free (fr_load rfl rfl rfl rfl (CellO.blk (i := 1) rfl rfl)) rfl rfl rfl ?_
                        refine ExL.free (fr_lss_f rfl rfl rfl (by have := hwg (by omega); omega)) rfl rfl rfl ?_
                        refine ExL.pures 5 rfl ?_
                        refine ExL.bool (d := 320) rfl (fun hb212 => ?_) (fun hb212 => ?_)
                        · replace hb212 := nb_t hb212
                          refine ExL.pures 2 rfl ?_
                          refine ExL.free (fr_load rfl rfl rfl rfl (CellO.blk (i := 1) rfl rfl)) rfl rfl rfl ?_
                          refine ExL.free (fr_neq_f rfl rfl rfl (fun h9 => h9 (hwe (by omega) (by assumption)))) rfl rfl rfl ?_
                          refine ExL.pures 5 rfl ?_
                          refine ExL.op rfl (op_ret rfl rfl rfl (c_A2Has ((sureV x3.1.2 x3.2.1.2 x3.2.2).1) _ _ (by omega) _) (Reads.get (Reads.row (i := 0) rfl)) rfl rfl (fun x213 hx213 => ?_))
                          refine ExL.pures 1 rfl ?_
                          refine ExL.bool (d := 331) rfl (fun hb214 => ?_) (fun hb214 => ?_)
                          · refine ExL.pures 2 rfl ?_
                            refine ExL.free (fr_load rfl rfl rfl rfl (CellO.blk (i := 1) rfl rfl)) rfl rfl rfl ?_
                            refine ExL.free (fr_neq_f rfl rfl rfl (fun h9 => h9 (hws (by omega) (by assumption)))) rfl rfl rfl ?_
                            refine ExL.pures 2 rfl ?_
                            refine ExL.nil ?_
                            refine Ex.cond_f rfl ?_
                            refine Ex.skip ?_
                            refine Ex.region (ExL.pures 1 rfl ?_)
                            refine ExL.free (by first | exact fr_add64 rfl rfl rfl (by omega) | exact fr_add rfl rfl rfl) rfl rfl rfl ?_
                            refine ExL.pures 1 rfl ?_
                            refine ExL.nil ?_
                            refine Hand.mk (k + 1) 6 [0, 1, 2, 3, 4, 5] ⟨rfl, trivial⟩ ⟨rfl, rfl, rfl, rfl, rfl, trivial⟩ (rfl) rfl (by omega) (by omega)
                          · refine ExL.pures 6 rfl ?_
                            refine ExL.nil ?_
                            refine Ex.cond_f rfl ?_
                            refine Ex.skip ?_
                            refine Ex.region (ExL.pures 1 rfl ?_)
                            refine ExL.free (by first | exact fr_add64 rfl rfl rfl (by omega) | exact fr_add rfl rfl rfl) rfl rfl rfl ?_
                            refine ExL.pures 1 rfl ?_
                            refine ExL.nil ?_
                            refine Hand.mk (k + 1) 6 [0, 1, 2, 3, 4, 5] ⟨rfl, trivial⟩ ⟨rfl, rfl, rfl, rfl, rfl, trivial⟩ (rfl) rfl (by omega) (by omega)
                        · replace hb212 := nb_f hb212
                          refine ExL.pures 9 rfl ?_
                          refine ExL.op rfl (op_ret rfl rfl rfl (c_A2Has ((sureV x3.1.2 x3.2.1.2 x3.2.2).1) _ _ (by omega) _) (Reads.get (Reads.row (i := 0) rfl)) rfl rfl (fun x215 hx215 => ?_))
                          refine ExL.pures 1 rfl ?_
                          refine ExL.bool (d := 331) rfl (fun hb216 => ?_) (fun hb216 => ?_)
                          · refine ExL.pures 2 rfl ?_
                            refine ExL.free (fr_load rfl rfl rfl rfl (CellO.blk (i := 1) rfl rfl)) rfl rfl rfl ?_
                            refine ExL.free (fr_neq_f rfl rfl rfl (fun h9 => h9 (hws (by omega) (by assumption)))) rfl rfl rfl ?_
                            refine ExL.pures 2 rfl ?_
                            refine ExL.nil ?_
                            refine Ex.cond_f rfl ?_
                            refine Ex.skip ?_
                            refine Ex.region (ExL.pures 1 rfl ?_)
                            refine ExL.free (by first | exact fr_add64 rfl rfl rfl (by omega) | exact fr_add rfl rfl rfl) rfl rfl rfl ?_
                            refine ExL.pures 1 rfl ?_
                            refine ExL.nil ?_
                            refine Hand.mk (k + 1) 6 [0, 1, 2, 3, 4, 5] ⟨rfl, trivial⟩ ⟨rfl, rfl, rfl, rfl, rfl, trivial⟩ (rfl) rfl (by omega) (by omega)
                          · refine ExL.pures 6 rfl ?_
                            refine ExL.nil ?_
                            refine Ex.cond_f rfl ?_
                            refine Ex.skip ?_
                            refine Ex.region (ExL.pures 1 rfl ?_)
                            refine ExL.free (by first | exact fr_add64 rfl rfl rfl (by omega) | exact fr_add rfl rfl rfl) rfl rfl rfl ?_
                            refine ExL.pures 1 rfl ?_
                            refine ExL.nil ?_
                            refine Hand.mk (k + 1) 6 [0, 1, 2, 3, 4, 5] ⟨rfl, trivial⟩ ⟨rfl, rfl, rfl, rfl, rfl, trivial⟩ (rfl) rfl (by omega) (by omega)
                  · refine ExL.nil ?_
                    refine Ex.cond_f rfl ?_
                    refine Ex.exit ?_
                    refine Ex.regSeq (ExL.pures 1 rfl ?_)
                    refine ExL.nil ?_
                    refine Ex.ret ?_
                    refine RetQ.mk () rfl (.tmp rfl .nil) (tB (by first | rfl | exact absurd rfl (by assumption) | exact absurd (hvl.symm.trans (by assumption)) (by decide) | exact absurd (hvf.symm.trans (by assumption)) (by decide) | exact absurd (by assumption) (hwn (by assumption)))) [] (rfl) rfl (trivial)
end Go.Proofs.YtddflaaccmjoeaaGreatDoor
