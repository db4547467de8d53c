/- Several texts, one behind the other. -/
import Derived.WalkKit
import Derived.OrdersHeld
import Derived.Laws.Rows
import Derived.Laws.Tables
import Derived.Laws.AppendOwn
import Derived.Laws.MakeOwn
import Derived.Laws.OwnMore
import Derived.Lib.Hide
import Derived.Deep.LoopGhost
import Derived.IntWalk
import Derived.ChangeKeysEq
import Derived.Laws.StructEq
import Derived.RangeFuncFrom
import Derived.RangeFuncLeaves
import Derived.TacticsIn
import Derived.ProofKit
import Derived.OpenShut
import Derived.Lib.AppendStr
import Derived.Lib.UnsafeStr
import Derived.Lib.Builder
import Derived.Laws.Concat
import Derived.Laws.IdiomStrings
import Derived.Laws.Externs
import Derived.Laws.CopyRow
/- The ground of these proofs: states told as lists (what the slots hold, what memory is the call's own), and one rule for each thing that the code does. Nothing of one program stands here. -/
set_option linter.unusedVariables false
set_option linter.unusedSimpArgs false
namespace Go.Sx
open Go Go.RowKit

/-! ### Slots -/
abbrev Env := List (Nat × Value)
def look : Env → Nat → Option Value
  | [], _ => none
  | (j, v) :: t, i => bif Nat.beq j i then some v else look t i
def ev (env : Env) : Operand → Option Value
  | .tmp t => look env t
  | .const v => some v
  | .func f => some (.func (.func f) #[] #[])
  | .global g => some (.pointer (some ⟨g, 0, none⟩))
def evs (env : Env) : List Operand → Option (List Value)
  | [] => some []
  | x :: t => match ev env x, evs env t with
    | some v, some vs => some (v :: vs)
    | _, _ => none
structure Rep (n : Nat) (ds : List Deferred) (env : Env) (a : Act) : Prop where
  def0 : a.defers = ds
  size : a.tmps.size = n
  at_ : ∀ i v, look env i = some v → i < n ∧ a.tmps.getD i undef = v
def upd (env : Env) : Option Tmp → Value → Env
  | some d, v => (d, v) :: env
  | none, _ => env
def dstOk (n : Nat) : Option Tmp → Bool
  | some d => Nat.blt d n
  | none => true
theorem Rep.ev {n ds env a x v} (h : Rep n ds env a) (hx : ev env x = some v) : a.eval x = v := by
  cases x with
  | tmp t => exact (h.at_ t v hx).2
  | const u => exact Option.some.inj hx
  | global g => exact Option.some.inj hx
  | func f => exact Option.some.inj hx
theorem Rep.evs {n ds env a} (h : Rep n ds env a) : ∀ {xs vs}, evs env xs = some vs → xs.map a.eval = vs
  | [], vs, hx => by simpa [Sx.evs] using hx
  | x :: t, vs, hx => by
    simp only [Sx.evs] at hx
    cases h1 : Sx.ev env x with
    | none => simp [h1] at hx
    | some v => cases h2 : Sx.evs env t with
      | none => simp [h1, h2] at hx
      | some us =>
        simp only [h1, h2, Option.some.injEq] at hx
        subst hx
        simp [h.ev h1, h.evs h2]
theorem Rep.put {n ds env a d v} (h : Rep n ds env a) (hd : dstOk n d = true) : Rep n ds (upd env d v) (a.put d v) := by
  cases d with
  | none => exact h
  | some d =>
    have hlt : d < n := by simpa [dstOk] using hd
    refine ⟨h.def0, by simp [Act.put, h.size], fun i u hu => ?_⟩
    simp only [upd, look] at hu
    by_cases e : d = i
    · subst e
      have hb : Nat.beq d d = true := by simp
      rw [hb] at hu
      simp only [cond_true, Option.some.injEq] at hu
      subst hu
      refine ⟨hlt, ?_⟩
      have : d < a.tmps.size := by rw [h.size]; exact hlt
      simp [Act.put, this]
    · have hb : Nat.beq d i = false := by
        cases h : Nat.beq d i
        · rfl
        · exact absurd (Nat.eq_of_beq_eq_true h) e
      rw [hb] at hu
      simp only [cond_false] at hu
      obtain ⟨hi, hv⟩ := h.at_ i u hu
      refine ⟨hi, ?_⟩
      rw [← hv]
      simp only [Act.put, Array.getD_eq_getD_getElem?]
      rw [Array.getElem?_setIfInBounds_ne e]
theorem Rep.put1 {n ds env a d v} {dst : Option Tmp} (h : Rep n ds env a) (hd : dst = some d) (hlt : Nat.blt d n = true) : Rep n ds ((d, v) :: env) (a.put dst v) := by
  subst hd
  exact h.put (d := some d) (by simpa [dstOk] using hlt)
/-- Each slot of the one holds what it does in the other. -/
def Agree : Env → Env → Prop
  | [], _ => True
  | (i, v) :: t, env => look env i = some v ∧ Agree t env
theorem Agree.look {env : Env} : ∀ {E : Env}, Agree E env → ∀ i v, look E i = some v → look env i = some v
  | [], _, i, v, h => by simp [Sx.look] at h
  | (j, u) :: t, hA, i, v, h => by
    simp only [Sx.look] at h
    cases hb : Nat.beq j i with
    | true =>
      rw [hb] at h
      have e : j = i := by simpa using hb
      subst e
      simp only [cond_true, Option.some.injEq] at h
      subst h
      exact hA.1
    | false => rw [hb] at h; exact Agree.look hA.2 i v h
theorem Rep.agree {n ds E env a} (h : Rep n ds env a) (hA : Agree E env) : Rep n ds E a := ⟨h.def0, h.size, fun i v hi => h.at_ i v (hA.look i v hi)⟩

/-! ### Memory of the call's own -/
/-- A row that is only read from now on. -/
structure Rw where
  v : Value
  E : TypeId
  sz : Nat
  n : Nat
  xs : List Value
def Rw.apart (r s : Rw) : Prop := ∀ b, r.v.ownBlock = some b → s.v.ownBlock ≠ some b
inductive Ent where
  | blk (b : Nat) (cs : List Value) (T : TypeId)
  | row (v : Value) (E : TypeId) (sz n : Nat) (xs : List Value)
  | mset (b : Nat) (ks : List Int)
  | pile (rs : List Rw)
def Ent.cellLike : Ent → Bool
  | .mset _ _ => false
  | .pile _ => false
  | _ => true
def Ent.block : Ent → Option Nat
  | .blk b _ _ => some b
  | .row v _ _ _ _ => v.ownBlock
  | .mset b _ => some b
  | .pile _ => none
def Ent.has : Ent → Nat → Prop
  | .blk b' _ _, b => some b' = some b
  | .row v _ _ _ _, b => v.ownBlock = some b
  | .mset b' _, b => some b' = some b
  | .pile rs, b => ∃ r ∈ rs, r.v.ownBlock = some b
theorem Ent.has_of {e : Ent} {b : Nat} (h : e.block = some b) : e.has b := by
  cases e with
  | blk _ _ _ => exact h
  | row _ _ _ _ _ => exact h
  | mset _ _ => exact h
  | pile rs => cases h
def Ent.holds (base : Nat) (w : World) : Ent → Prop
  | .blk b cs T => base ≤ b ∧ w.heap[b]? = some (.cells cs.toArray T (0, 0))
  | .row v E sz n xs => w.ownsRow base E sz v n xs
  | .mset b ks => base ≤ b ∧ ∃ es clock, w.heap[b]? = some (.map es clock) ∧ es.toList.map (fun e => (e.key, e.val)) = ks.map (fun k => (Value.int .i64 k, Value.bool true))
  | .pile rs => (∀ r ∈ rs, w.ownsRow base r.E r.sz r.v r.n r.xs) ∧ rs.Pairwise Rw.apart
def Ent.apart (e f : Ent) : Prop := ∀ b, e.has b → ¬ f.has b
structure Holds (base : Nat) (w0 : World) (m : List Ent) (w : World) : Prop where
  below : Below base w0 w
  le : base ≤ w0.heap.size
  all : ∀ e ∈ m, e.holds base w
  apart : m.Pairwise Ent.apart
  others : KeepsOthers w0 w
theorem Ent.holds.cells {base w e} (h : Ent.holds base w e) (hc : e.cellLike = true) : ∀ b o, e.has b → w.heap[b]? = some o → o.isCells = true := by
  intro b o hb ho
  cases e with
  | blk b' cs T =>
    simp only [Ent.has, Option.some.injEq] at hb; subst hb
    have h2 := h.2
    rw [ho] at h2; cases h2; rfl
  | row v E sz n xs =>
    rcases h.2 with ⟨rfl, _⟩ | ⟨g, cap, cur, rfl, _, hg, _⟩
    · simp [Ent.has, Value.ownBlock] at hb
    · simp only [Ent.has, Value.ownBlock, Option.some.injEq] at hb; subst hb
      rw [ho] at hg; cases hg; rfl
  | mset b ks => exact nomatch hc
  | pile rs => exact nomatch hc
theorem Ent.holds.lt {base w e} (h : Ent.holds base w e) : ∀ b, e.has b → base ≤ b ∧ b < w.heap.size := by
  intro b hb
  cases e with
  | blk b' cs T => simp [Ent.has] at hb; subst hb; exact ⟨h.1, (Array.getElem?_eq_some_iff.1 h.2).1⟩
  | row v E sz n xs => exact World.ownsRow.lt h b hb
  | mset b' ks =>
    simp [Ent.has] at hb; subst hb
    obtain ⟨h1, es, clock, h2, _⟩ := h
    exact ⟨h1, (Array.getElem?_eq_some_iff.1 h2).1⟩
  | pile rs =>
    obtain ⟨r, hr, hb⟩ := hb
    exact World.ownsRow.lt (h.1 r hr) b hb
/-- What is not turned holds still. -/
theorem Ent.holds.grown {base w w' row e} (h : Ent.holds base w e) (hg : w.grownBy w' row) (hne : ∀ b, e.has b → row ≠ some b) : Ent.holds base w' e := by
  cases e with
  | blk b cs T =>
    refine ⟨h.1, ?_⟩
    rw [hg.block b (Array.getElem?_eq_some_iff.1 h.2).1 (fun e => hne b rfl e.symm)]
    exact h.2
  | row v E sz n xs =>
    refine World.ownsRow.kept h hg ?_
    cases hv : v.ownBlock with
    | none => exact .inl rfl
    | some b => exact .inr fun e => hne b hv e.symm
  | mset b ks =>
    obtain ⟨h1, es, clock, h2, h3⟩ := h
    refine ⟨h1, es, clock, ?_, h3⟩
    rw [hg.block b (Array.getElem?_eq_some_iff.1 h2).1 (fun e => hne b rfl e.symm)]
    exact h2
  | pile rs =>
    refine ⟨fun r hr => ?_, h.2⟩
    refine World.ownsRow.kept (h.1 r hr) hg ?_
    cases hv : r.v.ownBlock with
    | none => exact .inl rfl
    | some b => exact .inr fun e => hne b ⟨r, hr, hv⟩ e.symm
theorem grown_of_below {w w' : World} (h : Below w.heap.size w w') (row : Option Nat) : w.grownBy w' row := ⟨h.os, h.tape, h.output, h.size, fun k hk _ => h.block k hk⟩
theorem Holds.sub {base w0 m m' w} (h : Holds base w0 m w) (hs : m'.Sublist m) : Holds base w0 m' w := ⟨h.below, h.le, fun e he => h.all e (hs.subset he), h.apart.sublist hs, h.others⟩
theorem Holds.wle {base w0 m w} (h : Holds base w0 m w) : base ≤ w.heap.size := Nat.le_trans h.le h.below.size
/-- The world is let grow. -/
theorem Holds.ext {base w0 m w w'} (h : Holds base w0 m w) (hb : Below w.heap.size w w') : Holds base w0 m w' :=
  ⟨h.below.trans (hb.mono h.wle), h.le, fun e he => (h.all e he).grown (grown_of_below hb none) (by simp), h.apart, h.others.trans (KeepsOthers.of_grownBy (grown_of_below hb none) (fun _ _ e => nomatch e))⟩
/-- The world is let grow, and something new is told. -/
theorem Holds.add {base w0 m w w' new} (h : Holds base w0 m w) (hb : Below w.heap.size w w') (hn : ∀ e ∈ new, Ent.holds w.heap.size w' e) (hp : new.Pairwise Ent.apart) : Holds base w0 (new ++ m) w' := by
  have h' := h.ext hb
  refine ⟨h'.below, h'.le, fun e he => ?_, ?_, h'.others⟩
  · rcases List.mem_append.1 he with he | he
    · have := hn e he
      cases e with
      | blk b cs T => exact ⟨Nat.le_trans h.wle this.1, this.2⟩
      | row v E sz n xs =>
        refine ⟨this.1, this.2.imp id ?_⟩
        rintro ⟨g, cap, cur, hv, hg, rest⟩
        exact ⟨g, cap, cur, hv, Nat.le_trans h.wle hg, rest⟩
      | mset b ks => exact ⟨Nat.le_trans h.wle this.1, this.2⟩
      | pile rs =>
        refine ⟨fun r hr => ?_, this.2⟩
        refine ⟨(this.1 r hr).1, (this.1 r hr).2.imp id ?_⟩
        rintro ⟨g, cap, cur, hv, hg, rest⟩
        exact ⟨g, cap, cur, hv, Nat.le_trans h.wle hg, rest⟩
    · exact h'.all e he
  · refine List.pairwise_append.2 ⟨hp, h'.apart, fun e he f hf b hb1 hb2 => ?_⟩
    have h1 := (Ent.holds.lt (hn e he) b hb1).1
    have h2 := (Ent.holds.lt (h.all f hf) b hb2).2
    omega
/-- One of them is turned, in its own block or into a new one. -/
theorem Holds.turn {base w0 m1 e m2 w w' e'} (h : Holds base w0 (m1 ++ e :: m2) w) (hg : w.grownBy w' e.block) (he : Ent.holds base w' e') (hb : ∀ b, e'.has b → e.has b ∨ w.heap.size ≤ b) (hc : e.cellLike = true := by rfl) : Holds base w0 (m1 ++ e' :: m2) w' := by
  have hall := h.all
  have hap := List.pairwise_append.1 h.apart
  have hap2 := List.pairwise_cons.1 hap.2.1
  have hrow : ∀ k, e.block = some k → base ≤ k := fun k hk => (Ent.holds.lt (hall e (by simp)) k (Ent.has_of hk)).1
  refine ⟨h.below.trans ⟨hg.os, hg.tape, hg.output, hg.size, fun k hk => hg.block k (Nat.lt_of_lt_of_le hk h.wle) (fun hek => ?_)⟩, h.le, fun f hf => ?_, ?_, h.others.trans (KeepsOthers.of_grownBy hg (fun j o hj ho => (hall e (by simp)).cells hc j o (Ent.has_of hj) ho))⟩
  · have := hrow k hek.symm; omega
  · rcases List.mem_append.1 hf with hf | hf
    · exact (hall f (by simp [hf])).grown hg (fun b hfb heb => hap.2.2 f hf e (by simp) b hfb (Ent.has_of heb))
    · rcases List.mem_cons.1 hf with rfl | hf
      · exact he
      · exact (hall f (by simp [hf])).grown hg (fun b hfb heb => hap2.1 f hf b (Ent.has_of heb) hfb)
  · refine List.pairwise_append.2 ⟨hap.1, List.pairwise_cons.2 ⟨fun f hf b hb1 hb2 => ?_, hap2.2⟩, fun f hf g hg2 b hb1 hb2 => ?_⟩
    · rcases hb b hb1 with h1 | h1
      · exact hap2.1 f hf b h1 hb2
      · have := (Ent.holds.lt (hall f (by simp [hf])) b hb2).2; omega
    · rcases List.mem_cons.1 hg2 with rfl | hg2
      · rcases hb b hb2 with h1 | h1
        · exact hap.2.2 f hf e (by simp) b hb1 h1
        · have := (Ent.holds.lt (hall f (by simp [hf])) b hb1).2; omega
      · exact hap.2.2 f hf g (by simp [hg2]) b hb1 hb2
end Go.Sx
namespace Go.Sx
open Go Go.RowKit

/-! ### Code -/
structure Cx where
  P : Program
  n : Nat
  base : Nat
  w0 : World
  rd : Option Nat
  ds : List Deferred
def okExit : Exit → Bool
  | .panic _ => false
  | .outgrown => false
  | _ => true
abbrev Post := Exit → Env → List Ent → Prop
def mark (D : Nat) : Deferred := { target := .collected D, args := #[] }
/-- The calls that are put off: those of the start; at a return there may be a loop's own block beside, which is empty. -/
def markOk (C : Cx) (e : Exit) (ds : List Deferred) (w : World) : Prop := ds = C.ds ∨ (e = .ret ∧ C.ds = [] ∧ ∃ D, ds = [mark D] ∧ C.w0.heap.size ≤ D ∧ w.heap[D]? = some (.deferred (some [])))
def post (C : Cx) (Q : Post) : Exit → Act → World → Prop := fun e a w => okExit e = true ∧ ∃ env m ds, Rep C.n ds env a ∧ Holds C.base C.w0 m w ∧ Q e env m ∧ markOk C e ds w
abbrev fc (rd : Option Nat) : Fence := { Fence.wide with round := rd }
theorem markOk.same {C : Cx} {e ds w} (h : markOk C e ds w) (he : e ≠ .ret) : ds = C.ds := h.elim id fun h => absurd h.1 he
theorem markOk.to {C : Cx} {e e' ds w} (h : markOk C e ds w) (he : e ≠ .ret) : markOk C e' ds w := .inl (h.same he)
/-- From this state on the code goes its way, and ends in what Q tells. -/
def Ex (C : Cx) (c : Code) (env : Env) (m : List Ent) (Q : Post) : Prop := ∀ a w, Rep C.n C.ds env a → Holds C.base C.w0 m w → c.wpIn (fc C.rd) 0 C.P (post C Q) a w
def Sq (next : Env → List Ent → Prop) (Q : Post) : Post
  | .normal, env, m => next env m
  | .exit k, env, m => Q (.exit k) env m
  | .goto k, env, m => Q (.goto k) env m
  | .ret, env, m => Q .ret env m
  | .panic k, env, m => Q (.panic k) env m
  | .outgrown, env, m => Q .outgrown env m
def Bk (id : Nat) (Q : Post) : Post
  | .exit k, env, m => bif Nat.beq k id then Q .normal env m else Q (.exit k) env m
  | .normal, env, m => Q .normal env m
  | .goto k, env, m => Q (.goto k) env m
  | .ret, env, m => Q .ret env m
  | .panic k, env, m => Q (.panic k) env m
  | .outgrown, env, m => Q .outgrown env m
variable {C : Cx} {env env' : Env} {m m' : List Ent} {Q Q' : Post}
theorem Ex.mono {c : Code} (h : Ex C c env m Q) (hq : ∀ e env m, Q e env m → Q' e env m) : Ex C c env m Q' :=
  fun a w hr hh => wpIn_mono (h a w hr hh) fun _ _ _ ⟨ho, env, m, ds, hr, hh, q, hd⟩ => ⟨ho, env, m, ds, hr, hh, hq _ _ _ q, hd⟩
theorem Ex.seq {x y : Code} (h : Ex C x env m (Sq (fun env m => Ex C y env m Q) Q)) : Ex C (.seq x y) env m Q := by
  intro a w hr hh
  refine wpIn_seq (wpIn_mono (h a w hr hh) ?_)
  rintro e a w ⟨ho, env, m, ds, hr, hh, hq, hd⟩
  cases e with
  | normal => exact hq a w (hd.same (fun e => nomatch e) ▸ hr) hh
  | exit k => exact ⟨rfl, env, m, ds, hr, hh, hq, hd⟩
  | goto k => exact ⟨rfl, env, m, ds, hr, hh, hq, hd⟩
  | ret => exact ⟨rfl, env, m, ds, hr, hh, hq, hd⟩
  | panic k => simp [okExit] at ho
  | outgrown => simp [okExit] at ho
theorem Ex.skip (h : Q .normal env m) : Ex C .skip env m Q := fun _ _ hr hh => wpIn_skip ⟨rfl, env, m, _, hr, hh, h, .inl rfl⟩
theorem Ex.exit {k} (h : Q (.exit k) env m) : Ex C (.exit k) env m Q := fun _ _ hr hh => wpIn_exit ⟨rfl, env, m, _, hr, hh, h, .inl rfl⟩
theorem Ex.ret (h : Q .ret env m) : Ex C .ret env m Q := fun _ _ hr hh => wpIn_ret ⟨rfl, env, m, _, hr, hh, h, .inl rfl⟩
theorem Ex.cond_t {c : Operand} {x y : Code} (hc : ev env c = some (.bool true)) (h : Ex C x env m Q) : Ex C (.cond c x y) env m Q :=
  fun a w hr hh => wpIn_cond_true (hr.ev hc) (h a w hr hh)
theorem Ex.cond_f {c : Operand} {x y : Code} (hc : ev env c = some (.bool false)) (h : Ex C y env m Q) : Ex C (.cond c x y) env m Q :=
  fun a w hr hh => wpIn_cond_false (hr.ev hc) (h a w hr hh)
theorem Ex.cond {c : Operand} {x y : Code} {b : Bool} (hc : ev env c = some (.bool b)) (ht : b = true → Ex C x env m Q) (hf : b = false → Ex C y env m Q) : Ex C (.cond c x y) env m Q := by
  cases b
  · exact Ex.cond_f hc (hf rfl)
  · exact Ex.cond_t hc (ht rfl)
theorem Ex.block {id : Nat} {c : Code} (h : Ex C c env m (Bk id Q)) : Ex C (.block id c) env m Q := by
  intro a w hr hh
  refine wpIn_block (wpIn_mono (h a w hr hh) ?_)
  rintro e a w ⟨ho, env, m, ds, hr, hh, hq, hd⟩
  cases e with
  | normal => exact ⟨rfl, env, m, ds, hr, hh, hq, hd⟩
  | exit k =>
    simp only [Exit.inBlock]
    simp only [Bk] at hq
    by_cases hk : k = id
    · rw [if_pos hk]
      subst hk
      rw [show Nat.beq k k = true by simp] at hq
      exact ⟨rfl, env, m, ds, hr, hh, hq, hd.to (fun e => nomatch e)⟩
    · rw [if_neg hk]
      rw [show Nat.beq k id = false by
        cases h : Nat.beq k id
        · rfl
        · exact absurd (Nat.eq_of_beq_eq_true h) hk] at hq
      exact ⟨rfl, env, m, ds, hr, hh, hq, hd⟩
  | goto k => exact ⟨rfl, env, m, ds, hr, hh, hq, hd⟩
  | ret => exact ⟨rfl, env, m, ds, hr, hh, hq, hd⟩
  | panic k => simp [okExit] at ho
  | outgrown => simp [okExit] at ho
theorem wpIn_loop_ghost {F : Fence} {n : Nat} {P : Program} {Q : Exit → Act → World → Prop} {a : Act} {w : World} {c : Code} (I : Nat → Act → World → Prop) (n₀ : Nat) (h₀ : I n₀ a w)
    (round : ∀ k a w, I k a w → c.wpIn F n P (Exit.then (fun a' w' => ∃ k', k' < k ∧ I k' a' w') Q) a w) : (Code.loop c).wpIn F n P Q a w := by
  refine wpIn_loop (fun a w => ∃ n, I n a w) (fun a w => leastOf (fun n => I n a w)) ⟨n₀, h₀⟩ ?_
  intro a w hI
  refine wpIn_mono (round _ a w (leastOf_spec hI).1) ?_
  intro e a' w' hq
  cases e with
  | normal =>
    obtain ⟨n', hlt, hI'⟩ := hq
    exact show (∃ n, I n a' w') ∧ leastOf (fun n => I n a' w') < leastOf (fun n => I n a w) from ⟨⟨n', hI'⟩, Nat.lt_of_le_of_lt ((leastOf_spec ⟨n', hI'⟩).2 n' hI') hlt⟩
  | exit id => exact hq
  | goto l => exact hq
  | ret => exact hq
  | panic ch => exact hq
  | outgrown => exact hq
/-- A loop: a family of states, told by x; each round goes from one of them to a lesser one, or leaves. -/
theorem Ex.loop {c : Code} {X : Type} (E : X → Env) (M : X → List Ent) (I : X → Prop) (μ : X → Nat) (x0 : X) (h0 : I x0) (hE : Agree (E x0) env) (hM : (M x0).Sublist m)
    (hr : ∀ x, I x → Ex C c (E x) (M x) (Sq (fun env' m' => ∃ x', I x' ∧ μ x' < μ x ∧ Agree (E x') env' ∧ (M x').Sublist m') Q)) : Ex C (.loop c) env m Q := by
  intro a w hrep hh
  refine wpIn_loop_ghost (fun k a w => ∃ x, μ x = k ∧ I x ∧ Rep C.n C.ds (E x) a ∧ Holds C.base C.w0 (M x) w) (μ x0) ⟨x0, rfl, h0, hrep.agree hE, hh.sub hM⟩ ?_
  rintro k a w ⟨x, rfl, hI, hrep, hh⟩
  refine wpIn_mono (hr x hI a w hrep hh) ?_
  rintro e a w ⟨ho, env, m, ds, hrep, hh, hq, hd⟩
  cases e with
  | normal =>
    obtain ⟨x', hI', hlt, hE', hM'⟩ := hq
    exact ⟨μ x', hlt, x', rfl, hI', (hd.same (fun e => nomatch e) ▸ hrep).agree hE', hh.sub hM'⟩
  | exit k => exact ⟨rfl, env, m, ds, hrep, hh, hq, hd⟩
  | goto k => exact ⟨rfl, env, m, ds, hrep, hh, hq, hd⟩
  | ret => exact ⟨rfl, env, m, ds, hrep, hh, hq, hd⟩
  | panic k => simp [okExit] at ho
  | outgrown => simp [okExit] at ho
/-! ### Operations -/
/-- In this state the operation leaves v, and nothing else happens. -/
def Free (C : Cx) (o : Oper) (env : Env) (m : List Ent) (v : Value) : Prop :=
  ∀ a w, Rep C.n C.ds env a → Holds C.base C.w0 m w → (execOp a.eval o).run C.P w = .ok (.value v) w
def nope : Exit → Act → World → Prop := fun _ _ _ => False
def In (C : Cx) (K : Env → List Ent → Prop) (a : Act) (w : World) : Prop := ∃ env m, Rep C.n C.ds env a ∧ Holds C.base C.w0 m w ∧ K env m
/-- One operation. -/
def Op1 (C : Cx) (o : Oper) (env : Env) (m : List Ent) (K : Env → List Ent → Prop) : Prop :=
  ∀ a w, Rep C.n C.ds env a → Holds C.base C.w0 m w → o.wp C.P a w (In C K) nope
theorem Op1.mono {o K K'} (h : Op1 C o env m K) (hk : ∀ env m, K env m → K' env m) : Op1 C o env m K' :=
  fun a w hr hh => Oper.wp_mono (fun _ _ ⟨e, m, h1, h2, h3⟩ => ⟨e, m, h1, h2, hk _ _ h3⟩) (h a w hr hh)
/-- An operation that makes a value, in a world that may be another one behind it. -/
theorem Op1.of_run {d : Nat} {o : Oper} {K} (hd : o.dst = some d) (hlt : Nat.blt d C.n = true)
    (h : ∀ a w, Rep C.n C.ds env a → Holds C.base C.w0 m w → ∃ v w' m', (execOp a.eval o).run C.P w = .ok (.value v) w' ∧ Holds C.base C.w0 m' w' ∧ K (((d, v) :: env)) m') : Op1 C o env m K := by
  intro a w hr hh
  obtain ⟨v, w', m', hrun, hh', hk⟩ := h a w hr hh
  unfold Oper.wp
  rw [hrun]
  exact ⟨_, m', hr.put1 hd hlt, hh', hk⟩
theorem Op1.of_free {d : Nat} {o : Oper} {K v} (hf : Free C o env m v) (hd : o.dst = some d) (hlt : Nat.blt d C.n = true) (h : K (((d, v) :: env)) m) : Op1 C o env m K :=
  Op1.of_run hd hlt fun a w hr hh => ⟨v, w, m, hf a w hr hh, hh, h⟩
/-- An operation without a value. -/
theorem Op1.of_skip {o : Oper} {K} (hd : o.dst = none)
    (h : ∀ a w, Rep C.n C.ds env a → Holds C.base C.w0 m w → ∃ w' m', (execOp a.eval o).run C.P w = .ok .skip w' ∧ Holds C.base C.w0 m' w' ∧ K env m') : Op1 C o env m K := by
  intro a w hr hh
  obtain ⟨w', m', hrun, hh', hk⟩ := h a w hr hh
  unfold Oper.wp
  rw [hrun, Oper.upon_skip, hd]
  exact ⟨env, m', hr, hh', hk⟩
/-! ### Lists of operations -/
def postN (C : Cx) (K : Env → List Ent → Prop) : Exit → Act → World → Prop
  | .normal, a, w => In C K a w
  | _, _, _ => False
def wantB (l : List Oper) (env : Env) (o : Oper) : Option Bool :=
  match o.guard with
  | none => some true
  | some (j, b) => match (l[j]?).bind (·.dst) with
    | none => none
    | some d => match look env d with
      | some (.bool c) => some (c == b)
      | some _ => some false
      | none => none
theorem wantB_ok {n ds l env o a b} (h : Rep n ds env a) (hw : wantB l env o = some b) : Region.wanted o (yielded l.toArray a.tmps) = b := by
  unfold wantB at hw
  unfold Region.wanted
  cases hg : o.guard with
  | none => simp only [hg] at hw; simpa using hw
  | some p =>
    obtain ⟨j, want⟩ := p
    simp only [hg] at hw ⊢
    cases hd : (l[j]?).bind (·.dst) with
    | none => rw [hd] at hw; simp at hw
    | some d =>
      rw [hd] at hw
      simp only at hw
      cases hl : look env d with
      | none => rw [hl] at hw; simp at hw
      | some v =>
        rw [hl] at hw
        obtain ⟨hlt, hv⟩ := h.at_ d _ hl
        have hlt' : d < a.tmps.size := by rw [h.size]; exact hlt
        have ht : a.tmps[d]? = some v := by
          simp only [Array.getD_eq_getD_getElem?] at hv
          rw [Array.getElem?_eq_getElem hlt'] at hv ⊢
          simpa using hv
        cases v with
        | bool c =>
          simp only [Option.some.injEq] at hw
          have hy : yielded l.toArray a.tmps j = some c := by
            unfold yielded
            rw [List.getElem?_toArray, hd]
            simp [ht]
          rw [hy, ← hw]
          cases c <;> cases want <;> rfl
        | _ =>
          simp only [Option.some.injEq] at hw
          have hy : yielded l.toArray a.tmps j = none := by
            unfold yielded
            rw [List.getElem?_toArray, hd]
            simp [ht]
          rw [hy, ← hw]
          cases want <;> rfl
def isDefer (o : Oper) : Bool := match o.op with
  | .defer _ => true
  | _ => false
def regOk : Option Nat → List Oper → Bool
  | none, _ => true
  | some _, l => l.all (fun o => !isDefer o)
/-- A list of operations, calls of yield among them. -/
def wl (rd : Option Nat) (P : Program) (ops : Array Oper) (Q : Exit → Act → World → Prop) : List Oper → Act → World → Prop
  | [], a, w => Q .normal a w
  | o :: rest, a, w =>
    if Region.wanted o (yielded ops a.tmps) then o.wp P a w (wl rd P ops Q rest) Q ∨
      (∃ l f tm asg bd w', (execOp a.eval o).run P w = .ok (.round l f tm asg bd) w' ∧ RoundIn (fc rd) 0 P l f tm asg bd w' fun
        | .returned v, w'' => wl rd P ops Q rest (a.put o.dst v) w''
        | _, _ => False)
    else wl rd P ops Q rest (a.put o.dst undef) w
theorem callsFc {P f args w R} (rd : Option Nat) (n : Nat) (h : Calls P f args w R) : CallsIn (fc rd) n P f args w R := (callsIn_wide (n := n)).2 h
theorem fcCalls {P f args w R} {rd : Option Nat} {n : Nat} (h : CallsIn (fc rd) n P f args w R) : Calls P f args w R := (callsIn_wide (n := n)).1 h
theorem rowsFc {P row args w R} (rd : Option Nat) (n : Nat) (h : Rows P row args w R) : RowsIn (fc rd) n P row args w R := fun c cs _ => let ⟨v, w', r, s⟩ := h c cs; ⟨v, w', r, stepsIn_wide.2 s⟩
theorem noDepth {rd : Option Nat} {n : Nat} : (fc rd).depth.isSome = true → 1 ≤ n := fun h => nomatch h
theorem op_in {rd : Option Nat} {P : Program} {o : Oper} {a : Act} {w : World} {next next' : Act → World → Prop} {Q : Exit → Act → World → Prop} (hd : rd = none ∨ isDefer o = false) (hn : ∀ a w, next a w → next' a w) (h : o.wp P a w next Q) : o.wpIn (fc rd) 0 P a w next' Q := by
  refine ⟨fun _ _ => trivial, ?_⟩
  have e : o.semAt (fc rd).round a.eval = execOp a.eval o := by
    rcases hd with rfl | hd
    · exact Oper.semAt_none _ _
    · exact Oper.semAt_eq _ _ _ (fun c hc => by simp [isDefer, hc] at hd)
  rw [e]
  unfold Oper.wp at h
  revert h
  generalize (execOp a.eval o).run P w = r
  intro h
  cases r with
  | ok n w' =>
    cases n with
    | value v => exact hn _ _ h
    | skip => exact hn _ _ h
    | defer d => exact hn _ _ h
    | enter f args =>
      refine ⟨noDepth, callsFc _ _ (Calls.mono h fun e w'' he => ?_)⟩
      cases e with
      | returned v => exact hn _ _ he
      | panicked c => exact he
      | outgrown => exact he
    | row r args => exact ⟨noDepth, rowsFc _ _ (Rows.mono h fun v w'' he => hn _ _ he)⟩
    | _ => exact h.elim
  | halt x w' => cases x <;> first | exact h | exact h.elim
theorem wl_in {rd : Option Nat} {P : Program} {ops : Array Oper} {Q : Exit → Act → World → Prop} : ∀ {rest : List Oper} {a : Act} {w : World}, regOk rd rest = true → wl rd P ops Q rest a w → wpListIn (fc rd) 0 P ops Q rest a w
  | [], a, w, _, h => h
  | o :: rest, a, w, hd, h => by
    have hd' : regOk rd rest = true := by
      cases rd with
      | none => rfl
      | some l => simp only [regOk, List.all_cons, Bool.and_eq_true] at hd ⊢; exact hd.2
    have ho : rd = none ∨ isDefer o = false := by
      cases rd with
      | none => exact .inl rfl
      | some l => right; simp only [regOk, List.all_cons, Bool.and_eq_true] at hd; simpa using hd.1
    unfold wl at h
    unfold wpListIn
    split at h
    · rename_i hw
      rw [if_pos hw]
      rcases h with h | ⟨l, f, tm, asg, bd, w', hrun, hR⟩
      · exact op_in ho (fun a w h => wl_in hd' h) h
      · refine ⟨fun _ _ => trivial, ?_⟩
        have e : o.semAt (fc rd).round a.eval = execOp a.eval o := by
          rcases ho with rfl | hd
          · exact Oper.semAt_none _ _
          · exact Oper.semAt_eq _ _ _ (fun c hc => by simp [isDefer, hc] at hd)
        rw [e, hrun]
        refine ⟨noDepth, hR.mono fun e w'' he => ?_⟩
        cases e with
        | returned v => exact wl_in hd' he
        | panicked c => exact he.elim
        | outgrown => exact he.elim
    · rename_i hw
      rw [if_neg hw]
      exact ⟨fun _ _ => trivial, wl_in hd' h⟩
theorem ops_in {rd : Option Nat} {P : Program} {ops : Array Oper} {Q : Exit → Act → World → Prop} (hno : ¬ LetsOut Q) (hd : regOk rd ops.toList = true) : ∀ {l : List Nat} {a : Act} {w : World}, wpOps P ops Q l a w → wpOpsIn (fc rd) 0 P ops Q l a w
  | [], a, w, h => h
  | i :: l, a, w, h => by
    unfold wpOps at h
    unfold wpOpsIn
    cases hi : ops[i]? with
    | none => rw [hi] at h; exact ops_in hno hd h
    | some o =>
      rw [hi] at h
      simp only at h ⊢
      have ho : rd = none ∨ isDefer o = false := by
        cases rd with
        | none => exact .inl rfl
        | some r =>
          right
          simp only [regOk, List.all_eq_true] at hd
          have := hd o (by rw [Array.mem_toList_iff]; exact Array.mem_of_getElem? hi)
          simpa using this
      split at h
      · rename_i hw
        rw [if_pos hw]
        rcases h with h | ⟨_, h⟩
        · exact op_in ho (fun a w h => ops_in hno hd h) h
        · exact absurd h hno
      · rename_i hw
        rw [if_neg hw]
        exact ⟨fun _ _ => trivial, ops_in hno hd h⟩
/-- Operation i is the last one, and waits for all others. -/
def lastOp (ops : Array Oper) (i : Nat) : Bool := Nat.beq (i + 1) ops.size && (List.range i).all fun j => match ops[i]? with
  | some o => o.after.any fun e => Region.binds .any e && Nat.beq e.on j
  | none => false
theorem lastOp_waits {ops : Array Oper} {z j : Nat} {o : Oper} (hz : lastOp ops z = true) (ho : ops[z]? = some o) (hj : j < ops.size) (hne : j ≠ z) : ∃ e ∈ o.after, Region.binds .any e = true ∧ e.on = j := by
  simp only [lastOp, Bool.and_eq_true, List.all_eq_true] at hz
  have h1 : z + 1 = ops.size := Nat.eq_of_beq_eq_true hz.1
  have h2 := hz.2 j (by simp; omega)
  simp only [ho] at h2
  rw [Array.any_eq_true] at h2
  obtain ⟨q, hq, hb⟩ := h2
  rw [Bool.and_eq_true] at hb
  exact ⟨o.after[q], Array.getElem_mem hq, hb.1, Nat.eq_of_beq_eq_true hb.2⟩
/-- Whatever order is picked from here on, and S stands behind every operation but such a last one. -/
def Held (P : Program) (ops : Array Oper) (Q : Exit → Act → World → Prop) (S : World → Prop) : Nat → Array Bool → Act → World → Prop
  | 0, listed, a, w => Region.ready .any ops listed = [] ∧ Q .normal a w
  | fuel + 1, listed, a, w =>
    (Region.ready .any ops listed = [] → Q .normal a w) ∧
    ∀ i ∈ Region.ready .any ops listed, wpOp P ops Q i (fun a' w' => (lastOp ops i = false → S w') ∧ Held P ops Q S fuel (listed.setIfInBounds i true) a' w') a w
theorem Held.any {P : Program} {ops : Array Oper} {Q : Exit → Act → World → Prop} {S : World → Prop} : ∀ {fuel : Nat} {listed : Array Bool} {a : Act} {w : World}, Held P ops Q S fuel listed a w → wpAny P .any ops Q fuel listed a w
  | 0, _, _, _, h => h
  | _ + 1, _, _, _, h => ⟨h.1, fun i hi => wpOp_mono (fun _ _ h' => h'.2.any) (h.2 i hi)⟩
theorem Held.first {P : Program} {ops : Array Oper} {Q : Exit → Act → World → Prop} {S : World → Prop} {i : Nat} {oi : Oper} {v : Value} (hi : ops[i]? = some oi) (hsel : ∀ (j : Nat) (o : Oper) cs b, ops[j]? = some o → o.op ≠ .select cs b)
    (hQ : ∀ c a w, Q (.panic c) (a.put oi.dst v) w → Q (.panic c) a w) : ∀ {fuel : Nat} {listed : Array Bool} {a : Act} {w : World},
      (∀ j oj, ops[j]? = some oj → j ≠ i → listed.getD j true = false → (∀ e ∈ oj.after, Region.binds .any e = true → e.on ≠ i) → oi.apart ops oj = true) →
      i ∈ Region.ready .any ops listed → YieldsIf P ops S oi v a → S w →
      Held P ops Q S fuel (listed.setIfInBounds i true) (a.put oi.dst v) w → Held P ops Q S (fuel + 1) listed a w := by
  have hlt : i < ops.size := (Array.getElem?_eq_some_iff.1 hi).1
  intro fuel
  induction fuel with
  | zero =>
    intro listed a w _ hr hy hS H
    refine ⟨fun h => absurd hr (by rw [h]; simp), fun j hj => ?_⟩
    by_cases hji : j = i
    · subst hji; exact hy.wpOp hi hS ⟨fun _ => hS, H⟩
    · exact absurd (ready_mono hj hji) (by rw [H.1]; simp)
  | succ fuel ih =>
    intro listed a w hfree hr hy hS H
    refine ⟨fun h => absurd hr (by rw [h]; simp), fun j hj => ?_⟩
    by_cases hji : j = i
    · subst hji; exact hy.wpOp hi hS ⟨fun _ => hS, H⟩
    · obtain ⟨hun, oj, hoj, hall⟩ := mem_ready.1 hj
      have hun0 := (mem_ready.1 hr).1
      have hno : ∀ e ∈ oj.after, Region.binds .any e = true → e.on ≠ i := fun e he hb heq => by
        have h1 := hall e he hb
        rw [heq] at h1
        rcases Nat.lt_or_ge i listed.size with h' | h'
        · simp [h'] at hun0 h1; rw [hun0] at h1; cases h1
        · simp [Array.getElem?_eq_none h'] at h1
      have hlast : lastOp ops j = false := by
        cases hz : lastOp ops j with
        | false => rfl
        | true =>
          obtain ⟨e, he, hb, hon⟩ := lastOp_waits hz hoj hlt (fun e => hji e.symm)
          exact absurd hon (hno e he hb)
      have h2 := wpOp_putIf hoj (hfree j oj hoj hji hun hno) (fun cs b => hsel i oi cs b hi) (fun cs b => hsel j oj cs b hoj) hQ hy (H.2 j (ready_mono hj hji))
      refine wpOp_mono (fun a' w' h3 => ⟨h3.2.1, ih ?_ (ready_mono hr (Ne.symm hji)) h3.1 (h3.2.1 hlast) ?_⟩) h2
      · intro k ok hk hki hun' hno'
        refine hfree k ok hk hki ?_ hno'
        by_cases hjk : j = k
        · subst hjk; exact hun
        · rwa [getD_set_ne true hjk] at hun'
      · rw [Array.setIfInBounds_comm _ _ hji]; exact h3.2.2
theorem Held.take {P : Program} {ops : Array Oper} {Q : Exit → Act → World → Prop} {S : World → Prop} {i : Nat} {oi : Oper} {v : Value} {fuel : Nat} {listed : Array Bool} {a : Act} {w : World} (hi : ops[i]? = some oi) (hs : Region.noSelect ops = true) (hf : Region.free .any ops listed i = true) (hr : (Region.ready .any ops listed).contains i = true)
    (hQ : ∀ c a w, Q (.panic c) (a.put oi.dst v) w → Q (.panic c) a w) (hy : YieldsIf P ops S oi v a) (hS : S w) (h : Held P ops Q S fuel (listed.setIfInBounds i true) (a.put oi.dst v) w) : Held P ops Q S (fuel + 1) listed a w :=
  Held.first hi (Region.noSelect_spec hs) hQ (Region.free_spec hi hf) (by simpa using hr) hy hS h
theorem Held.all {P : Program} {ops : Array Oper} {Q : Exit → Act → World → Prop} {S : World → Prop} {rs : List Nat} {fuel : Nat} {listed : Array Bool} {a : Act} {w : World} (hr : Region.ready .any ops listed = rs) (hne : rs ≠ [])
    (h : ∀ i ∈ rs, wpOp P ops Q i (fun a' w' => (lastOp ops i = false → S w') ∧ Held P ops Q S fuel (listed.setIfInBounds i true) a' w') a w) : Held P ops Q S (fuel + 1) listed a w :=
  ⟨fun h0 => absurd (hr ▸ h0) hne, hr ▸ h⟩
theorem Held.done {P : Program} {ops : Array Oper} {Q : Exit → Act → World → Prop} {S : World → Prop} {listed : Array Bool} {a : Act} {w : World} (hr : Region.ready .any ops listed = []) (h : Q .normal a w) : ∀ fuel, Held P ops Q S fuel listed a w
  | 0 => ⟨hr, h⟩
  | _ + 1 => ⟨fun _ => h, by rw [hr]; simp⟩
theorem draw_in {rd : Option Nat} {P : Program} {ops : Array Oper} {Q : Exit → Act → World → Prop} {S : World → Prop} {id : Nat} {a : Act} {w : World} (hno : ¬ LetsOut Q) (hd : regOk rd ops.toList = true) (hm : P.follows .mixedOrders = true)
    (h : Held P ops Q S ops.size (Array.replicate ops.size false) a { w with drawn := w.drawn + 1 }) : (Code.region id ops true).wpIn (fc rd) 0 P Q a w :=
  wpIn_region_draw fun t => by
    simp only [Region.schedule, hm, Bool.true_or, if_true]
    exact ops_in hno hd (wpAny_sound ops.size t _ a _ h.any)
/-- What is left of a region whose order is the text's. -/
def ExL (C : Cx) (l rest : List Oper) (env : Env) (m : List Ent) (K : Env → List Ent → Prop) : Prop :=
  ∀ a w, Rep C.n C.ds env a → Holds C.base C.w0 m w → wl C.rd C.P l.toArray (postN C K) rest a w
theorem postN_post {Q : Post} : ∀ e a w, postN C (fun env m => Q .normal env m) e a w → post C Q e a w := by
  intro e a w h
  cases e with
  | normal => obtain ⟨env, m, h1, h2, h3⟩ := h; exact ⟨rfl, env, m, _, h1, h2, h3, .inl rfl⟩
  | _ => exact h.elim
theorem Ex.region {id : Nat} {l : List Oper} (h : ExL C l l env m (fun env m => Q .normal env m)) (hrd : regOk C.rd l = true := by rfl) : Ex C (.region id l.toArray false) env m Q := by
  intro a w hr hh
  refine wpIn_mono (wpIn_region ?_) postN_post
  have := wpOpsIn_eq_wpListIn (F := fc C.rd) (n := 0) (P := C.P) (ops := l.toArray) (Q := postN C (fun env m => Q .normal env m)) l 0 (fun j => by simp)
  rw [show List.range l.toArray.size = List.range' 0 l.length by simp [List.range_eq_range']]
  rw [this]
  exact wl_in hrd (h a w hr hh)
variable {l rest : List Oper} {o : Oper} {K : Env → List Ent → Prop}
theorem ExL.nil (h : K env m) : ExL C l [] env m K := fun _ _ hr hh => ⟨env, m, hr, hh, h⟩
theorem ExL.op (hg : wantB l env o = some true) (h : Op1 C o env m (fun env m => ExL C l rest env m K)) : ExL C l (o :: rest) env m K := by
  intro a w hr hh
  have hw := wantB_ok hr hg
  unfold wl
  rw [if_pos hw]
  refine .inl ?_
  have h1 := h a w hr hh
  unfold Oper.wp at h1 ⊢
  revert h1
  generalize (execOp a.eval o).run C.P w = r
  intro h1
  cases r with
  | ok n w' =>
    cases n with
    | value v => obtain ⟨e, m, h1, h2, h3⟩ := h1; exact h3 _ _ h1 h2
    | skip => obtain ⟨e, m, h1, h2, h3⟩ := h1; exact h3 _ _ h1 h2
    | defer d => obtain ⟨e, m, h1, h2, h3⟩ := h1; exact h3 _ _ h1 h2
    | enter f args =>
      refine Calls.mono h1 fun e w'' he => ?_
      cases e with
      | returned v => obtain ⟨e, m, h1, h2, h3⟩ := he; exact h3 _ _ h1 h2
      | panicked c => exact he.elim
      | outgrown => obtain ⟨_, _, h⟩ := he; exact h.elim
    | row r args => exact Rows.mono h1 fun v w'' he => by obtain ⟨e, m, h1, h2, h3⟩ := he; exact h3 _ _ h1 h2
    | _ => exact h1
  | halt x w' => cases x <;> exact h1
theorem ExL.skip {d : Nat} (hg : wantB l env o = some false) (hd : o.dst = some d) (hlt : Nat.blt d C.n = true) (h : ExL C l rest (((d, undef) :: env)) m K) : ExL C l (o :: rest) env m K := by
  intro a w hr hh
  have hw := wantB_ok hr hg
  unfold wl
  rw [if_neg (by simp [hw])]
  exact h _ _ (hr.put1 hd hlt) hh
theorem ExL.free {d : Nat} {v} (hf : Free C o env m v) (hg : wantB l env o = some true) (hd : o.dst = some d) (hlt : Nat.blt d C.n = true) (h : ExL C l rest (((d, v) :: env)) m K) : ExL C l (o :: rest) env m K :=
  ExL.op hg (Op1.of_free hf hd hlt h)
/-- A slot's bool becomes known. -/
theorem ExL.bool {d : Nat} {b : Bool} (hb : look env d = some (.bool b)) (ht : b = true → ExL C l rest ((d, .bool true) :: env) m K) (hf : b = false → ExL C l rest ((d, .bool false) :: env) m K) : ExL C l rest env m K := by
  intro a w hr hh
  have key : ∀ c, b = c → Rep C.n C.ds ((d, .bool c) :: env) a := fun c hc => ⟨hr.def0, hr.size, fun i v hv => by
    simp only [look] at hv
    cases hbq : Nat.beq d i with
    | true =>
      rw [hbq] at hv
      have e : d = i := Nat.eq_of_beq_eq_true hbq
      subst e; subst hc
      simp only [cond_true, Option.some.injEq] at hv
      subst hv
      exact hr.at_ _ _ hb
    | false => rw [hbq] at hv; exact hr.at_ _ _ hv⟩
  cases hc : b with
  | true => exact ht hc a w (key true hc) hh
  | false => exact hf hc a w (key false hc) hh
end Go.Sx
namespace Go.Sx
open Go Go.RowKit
variable {C : Cx} {env env' : Env} {m m' : List Ent} {Q Q' : Post} {l rest : List Oper} {o : Oper} {K : Env → List Ent → Prop}

/-! ### Regions whose order is drawn -/
def lst (n : Nat) (done : List Nat) : Array Bool := done.foldr (fun i a => a.setIfInBounds i true) (Array.replicate n false)
/-- What is left of a region whose order is drawn; S: the memory that stands as it is told all the time. -/
def ExD (C : Cx) (l : List Oper) (S : List Ent) (fuel : Nat) (done : List Nat) (env : Env) (m : List Ent) (K : Env → List Ent → Prop) : Prop :=
  ∀ a w, Rep C.n C.ds env a → Holds C.base C.w0 m w → Held C.P l.toArray (postN C K) (Holds C.base C.w0 S) fuel (lst l.length done) a w
theorem Ex.draw {id : Nat} {l : List Oper} (S : List Ent) (hm : C.P.follows .mixedOrders = true) (h : ExD C l S l.length [] env m (fun env m => Q .normal env m)) (hrd : regOk C.rd l = true := by rfl) : Ex C (.region id l.toArray true) env m Q := by
  intro a w hr hh
  refine wpIn_mono (draw_in (S := Holds C.base C.w0 S) (fun ⟨_, _, h⟩ => h.elim) (by simpa using hrd) hm ?_) postN_post
  have h1 := h a w.drew hr (hh.ext (Below.refl _ _).drew)
  simpa [lst] using h1
def takeOk (l : List Oper) (done : List Nat) (i : Nat) : Bool :=
  Region.noSelect l.toArray && Region.free .any l.toArray (lst l.length done) i && (Region.ready .any l.toArray (lst l.length done)).contains i
theorem ExD.take {d : Nat} {S fuel done i o v} (hi : l[i]? = some o) (ht : takeOk l done i = true) (hf : Free C o env S v) (hS : S.Sublist m) (hg : wantB l env o = some true) (hd : o.dst = some d) (hlt : Nat.blt d C.n = true)
    (h : ExD C l S fuel (i :: done) (((d, v) :: env)) m K) : ExD C l S (fuel + 1) done env m K := by
  intro a w hr hh
  simp only [takeOk, Bool.and_eq_true] at ht
  refine Held.take (i := i) (oi := o) (v := v) (by simpa using hi) ht.1.1 ht.1.2 ht.2 (fun c a w hq => hq) (.inl ⟨wantB_ok hr hg, fun w hw => hf a w hr hw⟩) (hh.sub hS) ?_
  exact h _ _ (hr.put1 hd hlt) hh
/-- Not wanted. -/
theorem ExD.pass {d : Nat} {S fuel done i o} (hi : l[i]? = some o) (ht : takeOk l done i = true) (hS : S.Sublist m) (hg : wantB l env o = some false) (hd : o.dst = some d) (hlt : Nat.blt d C.n = true)
    (h : ExD C l S fuel (i :: done) (((d, undef) :: env)) m K) : ExD C l S (fuel + 1) done env m K := by
  intro a w hr hh
  simp only [takeOk, Bool.and_eq_true] at ht
  refine Held.take (i := i) (oi := o) (v := undef) (by simpa using hi) ht.1.1 ht.1.2 ht.2 (fun c a w hq => hq) (.inr ⟨wantB_ok hr hg, rfl⟩) (hh.sub hS) ?_
  exact h _ _ (hr.put1 hd hlt) hh
def nextOk (l : List Oper) (done : List Nat) (i : Nat) : Bool := (Region.ready .any l.toArray (lst l.length done)) == [i]
theorem ExD.op {S fuel done i o} (hi : l[i]? = some o) (hn : nextOk l done i = true) (hg : wantB l env o = some true)
    (h : Op1 C o env m (fun env m => S.Sublist m ∧ ExD C l S fuel (i :: done) env m K)) : ExD C l S (fuel + 1) done env m K := by
  intro a w hr hh
  have hn' : Region.ready .any l.toArray (lst l.length done) = [i] := by simpa [nextOk] using hn
  refine Held.all hn' (by simp) ?_
  intro j hj
  rw [List.mem_singleton] at hj
  subst hj
  unfold wpOp
  have hi' : l.toArray[j]? = some o := by simpa using hi
  rw [hi']
  have hw := wantB_ok hr hg
  simp only [hw, if_true]
  refine .inl ?_
  have h1 := h a w hr hh
  have hpan : ∀ (c : List PanicEntry) (a : Act) (w : World), nope (.panic c) a w → postN C K (.panic c) a w := fun _ _ _ h => h.elim
  unfold Oper.wp at h1 ⊢
  revert h1
  generalize (execOp a.eval o).run C.P w = r
  intro h1
  have key : ∀ a' w', In C (fun env m => S.Sublist m ∧ ExD C l S fuel (j :: done) env m K) a' w' → ((lastOp l.toArray j = false → Holds C.base C.w0 S w') ∧ Held C.P l.toArray (postN C K) (Holds C.base C.w0 S) fuel ((lst l.length done).setIfInBounds j true) a' w') := by
    rintro a' w' ⟨e, m, h1, h2, hs, h3⟩
    exact ⟨fun _ => h2.sub hs, h3 _ _ h1 h2⟩
  cases r with
  | ok n w' =>
    cases n with
    | value v => exact key _ _ h1
    | skip => exact key _ _ h1
    | defer d => exact key _ _ h1
    | enter f args =>
      refine Calls.mono h1 fun e w'' he => ?_
      cases e with
      | returned v => exact key _ _ he
      | panicked c => exact he.elim
      | outgrown => obtain ⟨_, _, h⟩ := he; exact h.elim
    | row r args => exact Rows.mono h1 fun v w'' he => key _ _ he
    | _ => exact h1
  | halt x w' => cases x <;> exact h1
/-- The last operation, which waits for all others: nothing is owed behind it. -/
theorem ExD.last {S fuel done i o} (hi : l[i]? = some o) (hn : nextOk l done i = true) (hz : lastOp l.toArray i = true) (hg : wantB l env o = some true)
    (h : Op1 C o env m (fun env m => ExD C l S fuel (i :: done) env m K)) : ExD C l S (fuel + 1) done env m K := by
  intro a w hr hh
  have hn' : Region.ready .any l.toArray (lst l.length done) = [i] := by simpa [nextOk] using hn
  refine Held.all hn' (by simp) ?_
  intro j hj
  rw [List.mem_singleton] at hj
  subst hj
  unfold wpOp
  have hi' : l.toArray[j]? = some o := by simpa using hi
  rw [hi']
  have hw := wantB_ok hr hg
  simp only [hw, if_true]
  refine .inl ?_
  have h1 := h a w hr hh
  have hpan : ∀ (c : List PanicEntry) (a : Act) (w : World), nope (.panic c) a w → postN C K (.panic c) a w := fun _ _ _ h => h.elim
  unfold Oper.wp at h1 ⊢
  revert h1
  generalize (execOp a.eval o).run C.P w = r
  intro h1
  have key : ∀ a' w', In C (fun env m => ExD C l S fuel (j :: done) env m K) a' w' → ((lastOp l.toArray j = false → Holds C.base C.w0 S w') ∧ Held C.P l.toArray (postN C K) (Holds C.base C.w0 S) fuel ((lst l.length done).setIfInBounds j true) a' w') := by
    rintro a' w' ⟨e, m, h1, h2, h3⟩
    exact ⟨fun hf => absurd hz (by rw [hf]; decide), h3 _ _ h1 h2⟩
  cases r with
  | ok n w' =>
    cases n with
    | value v => exact key _ _ h1
    | skip => exact key _ _ h1
    | defer d => exact key _ _ h1
    | enter f args =>
      refine Calls.mono h1 fun e w'' he => ?_
      cases e with
      | returned v => exact key _ _ he
      | panicked c => exact he.elim
      | outgrown => obtain ⟨_, _, h⟩ := he; exact h.elim
    | row r args => exact Rows.mono h1 fun v w'' he => key _ _ he
    | _ => exact h1
  | halt x w' => cases x <;> exact h1
def readyOk (l : List Oper) (done : List Nat) (rs : List Nat) : Bool := (Region.ready .any l.toArray (lst l.length done)) == rs
theorem ExD.ops {S fuel done rs} (hn : readyOk l done rs = true) (hne : rs ≠ [])
    (h : ∀ i ∈ rs, ∃ o, l[i]? = some o ∧ wantB l env o = some true ∧ Op1 C o env m (fun env m => S.Sublist m ∧ ExD C l S fuel (i :: done) env m K)) : ExD C l S (fuel + 1) done env m K := by
  intro a w hr hh
  have hn' : Region.ready .any l.toArray (lst l.length done) = rs := by simpa [readyOk] using hn
  refine Held.all hn' hne ?_
  intro j hj
  obtain ⟨o, hi, hg, h⟩ := h j hj
  unfold wpOp
  have hi' : l.toArray[j]? = some o := by simpa using hi
  rw [hi']
  have hw := wantB_ok hr hg
  simp only [hw, if_true]
  refine .inl ?_
  have h1 := h a w hr hh
  have hpan : ∀ (c : List PanicEntry) (a : Act) (w : World), nope (.panic c) a w → postN C K (.panic c) a w := fun _ _ _ h => h.elim
  unfold Oper.wp at h1 ⊢
  revert h1
  generalize (execOp a.eval o).run C.P w = r
  intro h1
  have key : ∀ a' w', In C (fun env m => S.Sublist m ∧ ExD C l S fuel (j :: done) env m K) a' w' → ((lastOp l.toArray j = false → Holds C.base C.w0 S w') ∧ Held C.P l.toArray (postN C K) (Holds C.base C.w0 S) fuel ((lst l.length done).setIfInBounds j true) a' w') := by
    rintro a' w' ⟨e, m, h1, h2, hs, h3⟩
    exact ⟨fun _ => h2.sub hs, h3 _ _ h1 h2⟩
  cases r with
  | ok n w' =>
    cases n with
    | value v => exact key _ _ h1
    | skip => exact key _ _ h1
    | defer d => exact key _ _ h1
    | enter f args =>
      refine Calls.mono h1 fun e w'' he => ?_
      cases e with
      | returned v => exact key _ _ he
      | panicked c => exact he.elim
      | outgrown => obtain ⟨_, _, h⟩ := he; exact h.elim
    | row r args => exact Rows.mono h1 fun v w'' he => key _ _ he
    | _ => exact h1
  | halt x w' => cases x <;> exact h1
def doneOk (l : List Oper) (done : List Nat) : Bool := (Region.ready .any l.toArray (lst l.length done)) == []
theorem ExD.done {S fuel done} (hn : doneOk l done = true) (h : K env m) : ExD C l S fuel done env m K := by
  intro a w hr hh
  refine Held.done (by simpa [doneOk] using hn) ?_ fuel
  exact ⟨env, m, hr, hh, h⟩
theorem ExD.bool {S fuel done} {d : Nat} {b : Bool} (hb : look env d = some (.bool b)) (ht : b = true → ExD C l S fuel done ((d, .bool true) :: env) m K) (hf : b = false → ExD C l S fuel done ((d, .bool false) :: env) m K) : ExD C l S fuel done env m K := by
  intro a w hr hh
  have key : ∀ c, b = c → Rep C.n C.ds ((d, .bool c) :: env) a := fun c hc => ⟨hr.def0, hr.size, fun i v hv => by
    simp only [look] at hv
    cases hbq : Nat.beq d i with
    | true =>
      rw [hbq] at hv
      have e : d = i := Nat.eq_of_beq_eq_true hbq
      subst e; subst hc
      simp only [cond_true, Option.some.injEq] at hv
      subst hv
      exact hr.at_ _ _ hb
    | false => rw [hbq] at hv; exact hr.at_ _ _ hv⟩
  cases hc : b with
  | true => exact ht hc a w (key true hc) hh
  | false => exact hf hc a w (key false hc) hh

/-! ### Operations that only compute -/
theorem fr_move {x v} (ho : o.op = .move x) (hx : ev env x = some v) : Free C o env m v := by
  intro a w hr _
  simp only [execOp, ho, hr.ev hx]; rfl
theorem fr_assign {x v} (ho : o.op = .assign x) (hx : ev env x = some v) : Free C o env m v := by
  intro a w hr _
  simp only [execOp, ho, hr.ev hx]; rfl
theorem fr_pick_t {c x y v} (ho : o.op = .pick c x y) (hc : ev env c = some (.bool true)) (hx : ev env x = some v) : Free C o env m v := by
  intro a w hr _
  simp only [execOp, ho, hr.ev hc, hr.ev hx]; rfl
theorem fr_pick_f {c x y v} (ho : o.op = .pick c x y) (hc : ev env c = some (.bool false)) (hx : ev env y = some v) : Free C o env m v := by
  intro a w hr _
  simp only [execOp, ho, hr.ev hc, hr.ev hx]; rfl
/-- '&&' and '||' whose second limb is a bool not known. -/
theorem fr_not {T x b} (ho : o.op = .unOp .not T x) (hx : ev env x = some (.bool b)) : Free C o env m (.bool (!b)) := by
  intro a w hr _
  simp only [execOp, ho, hr.ev hx]; rfl
theorem fr_extract {x} {k : Nat} {vs : Array Value} {v} (ho : o.op = .extract x k) (hx : ev env x = some (.tuple vs)) (hv : vs[k]? = some v) : Free C o env m v := by
  intro a w hr _
  simp only [execOp, ho, hr.ev hx, Instr.extract, hv]; rfl
theorem fr_nilCheck {x p} (ho : o.op = .nilCheck x) (hx : ev env x = some (.pointer (some p))) : Free C o env m (.pointer (some p)) := by
  intro a w hr _
  simp only [execOp, ho, hr.ev hx]; rfl
theorem fr_makeFunc {fn first cap fv cv} (ho : o.op = .makeFunc fn first cap) (h1 : evs env first.toList = some fv) (h2 : evs env cap.toList = some cv) : Free C o env m (.func fn fv.toArray cv.toArray) := by
  intro a w hr _
  have e1 : first.map a.eval = fv.toArray := by rw [← hr.evs h1]; simp [← Array.toList_inj]
  have e2 : cap.map a.eval = cv.toArray := by rw [← hr.evs h2]; simp [← Array.toList_inj]
  simp only [execOp, ho, e1, e2]; rfl
/-! integers -/
def isCmp : BinOp → Bool
  | .eql | .neq | .lss | .leq | .gtr | .geq => true
  | _ => false
def cmpP : BinOp → Int → Int → Prop
  | .eql, x, y => x = y
  | .neq, x, y => x ≠ y
  | .lss, x, y => x < y
  | .leq, x, y => x ≤ y
  | .gtr, x, y => y < x
  | .geq, x, y => y ≤ x
  | _, _, _ => True
theorem eqGuard_int (op : BinOp) (T : TypeId) (x y : Operand) (j k : IntKind) (p q : Int) (P : Program) (w : World) : (eqGuard op T x y (.int j p) (.int k q)).run P w = .ok () w := by
  unfold eqGuard
  cases op <;> rfl
theorem fr_cmp {op T x y T' k p q} (b : Bool) (ho : o.op = .binOp op T x y T') (hx : ev env x = some (.int k p)) (hy : ev env y = some (.int k q)) (hc : isCmp op = true) (hb : cmpP op p q ↔ b = true) : Free C o env m (.bool b) := by
  intro a w hr _
  have hcmp : (binOp op T (.int k p) (.int k q)).run C.P w = .ok (.bool b) w := by
    cases op <;> simp [isCmp] at hc <;> simp only [cmpP] at hb <;> cases b <;> simp [binOp, Op.intCmp, hb] <;> simp_all <;> rfl
  simp only [execOp, ho, hr.ev hx, hr.ev hy, Sem.run_bind, eqGuard_int, Result.andThen_ok, hcmp]; rfl
theorem fr_eql_t {T x y T' k p q} (ho : o.op = .binOp .eql T x y T') (hx : ev env x = some (.int k p)) (hy : ev env y = some (.int k q)) (h : p = q) : Free C o env m (.bool true) := fr_cmp true ho hx hy rfl ⟨fun _ => rfl, fun _ => h⟩
theorem fr_eql_f {T x y T' k p q} (ho : o.op = .binOp .eql T x y T') (hx : ev env x = some (.int k p)) (hy : ev env y = some (.int k q)) (h : ¬ (p = q)) : Free C o env m (.bool false) := fr_cmp false ho hx hy rfl ⟨fun h' => (h h').elim, fun h' => nomatch h'⟩
theorem fr_eql {T x y T' k p q} (ho : o.op = .binOp .eql T x y T') (hx : ev env x = some (.int k p)) (hy : ev env y = some (.int k q)) : Free C o env m (.bool (decide (p = q))) := fr_cmp _ ho hx hy rfl (by simp [cmpP])
theorem ExL.eql {d : Nat} {T x y T' k p q} (ho : o.op = .binOp .eql T x y T') (hx : ev env x = some (.int k p)) (hy : ev env y = some (.int k q)) (hg : wantB l env o = some true) (hd : o.dst = some d) (hlt : Nat.blt d C.n = true) (ht : p = q → ExL C l rest (((d, (.bool true)) :: env)) m K) (hf : ¬ (p = q) → ExL C l rest (((d, (.bool false)) :: env)) m K) : ExL C l (o :: rest) env m K := by
  by_cases h : p = q
  · exact ExL.free (fr_eql_t ho hx hy h) hg hd hlt (ht h)
  · exact ExL.free (fr_eql_f ho hx hy h) hg hd hlt (hf h)
theorem fr_neq_t {T x y T' k p q} (ho : o.op = .binOp .neq T x y T') (hx : ev env x = some (.int k p)) (hy : ev env y = some (.int k q)) (h : p ≠ q) : Free C o env m (.bool true) := fr_cmp true ho hx hy rfl ⟨fun _ => rfl, fun _ => h⟩
theorem fr_neq_f {T x y T' k p q} (ho : o.op = .binOp .neq T x y T') (hx : ev env x = some (.int k p)) (hy : ev env y = some (.int k q)) (h : ¬ (p ≠ q)) : Free C o env m (.bool false) := fr_cmp false ho hx hy rfl ⟨fun h' => (h h').elim, fun h' => nomatch h'⟩
theorem ExL.neq {d : Nat} {T x y T' k p q} (ho : o.op = .binOp .neq T x y T') (hx : ev env x = some (.int k p)) (hy : ev env y = some (.int k q)) (hg : wantB l env o = some true) (hd : o.dst = some d) (hlt : Nat.blt d C.n = true) (ht : p ≠ q → ExL C l rest (((d, (.bool true)) :: env)) m K) (hf : ¬ (p ≠ q) → ExL C l rest (((d, (.bool false)) :: env)) m K) : ExL C l (o :: rest) env m K := by
  by_cases h : p ≠ q
  · exact ExL.free (fr_neq_t ho hx hy h) hg hd hlt (ht h)
  · exact ExL.free (fr_neq_f ho hx hy h) hg hd hlt (hf h)
theorem fr_lss_t {T x y T' k p q} (ho : o.op = .binOp .lss T x y T') (hx : ev env x = some (.int k p)) (hy : ev env y = some (.int k q)) (h : p < q) : Free C o env m (.bool true) := fr_cmp true ho hx hy rfl ⟨fun _ => rfl, fun _ => h⟩
theorem fr_lss_f {T x y T' k p q} (ho : o.op = .binOp .lss T x y T') (hx : ev env x = some (.int k p)) (hy : ev env y = some (.int k q)) (h : ¬ (p < q)) : Free C o env m (.bool false) := fr_cmp false ho hx hy rfl ⟨fun h' => (h h').elim, fun h' => nomatch h'⟩
theorem ExL.lss {d : Nat} {T x y T' k p q} (ho : o.op = .binOp .lss T x y T') (hx : ev env x = some (.int k p)) (hy : ev env y = some (.int k q)) (hg : wantB l env o = some true) (hd : o.dst = some d) (hlt : Nat.blt d C.n = true) (ht : p < q → ExL C l rest (((d, (.bool true)) :: env)) m K) (hf : ¬ (p < q) → ExL C l rest (((d, (.bool false)) :: env)) m K) : ExL C l (o :: rest) env m K := by
  by_cases h : p < q
  · exact ExL.free (fr_lss_t ho hx hy h) hg hd hlt (ht h)
  · exact ExL.free (fr_lss_f ho hx hy h) hg hd hlt (hf h)
theorem fr_leq_t {T x y T' k p q} (ho : o.op = .binOp .leq T x y T') (hx : ev env x = some (.int k p)) (hy : ev env y = some (.int k q)) (h : p ≤ q) : Free C o env m (.bool true) := fr_cmp true ho hx hy rfl ⟨fun _ => rfl, fun _ => h⟩
theorem fr_leq_f {T x y T' k p q} (ho : o.op = .binOp .leq T x y T') (hx : ev env x = some (.int k p)) (hy : ev env y = some (.int k q)) (h : ¬ (p ≤ q)) : Free C o env m (.bool false) := fr_cmp false ho hx hy rfl ⟨fun h' => (h h').elim, fun h' => nomatch h'⟩
theorem fr_leq {T x y T' k p q} (ho : o.op = .binOp .leq T x y T') (hx : ev env x = some (.int k p)) (hy : ev env y = some (.int k q)) : Free C o env m (.bool (decide (p ≤ q))) := fr_cmp _ ho hx hy rfl (by simp [cmpP])
theorem ExL.leq {d : Nat} {T x y T' k p q} (ho : o.op = .binOp .leq T x y T') (hx : ev env x = some (.int k p)) (hy : ev env y = some (.int k q)) (hg : wantB l env o = some true) (hd : o.dst = some d) (hlt : Nat.blt d C.n = true) (ht : p ≤ q → ExL C l rest (((d, (.bool true)) :: env)) m K) (hf : ¬ (p ≤ q) → ExL C l rest (((d, (.bool false)) :: env)) m K) : ExL C l (o :: rest) env m K := by
  by_cases h : p ≤ q
  · exact ExL.free (fr_leq_t ho hx hy h) hg hd hlt (ht h)
  · exact ExL.free (fr_leq_f ho hx hy h) hg hd hlt (hf h)
theorem fr_gtr_t {T x y T' k p q} (ho : o.op = .binOp .gtr T x y T') (hx : ev env x = some (.int k p)) (hy : ev env y = some (.int k q)) (h : q < p) : Free C o env m (.bool true) := fr_cmp true ho hx hy rfl ⟨fun _ => rfl, fun _ => h⟩
theorem fr_gtr_f {T x y T' k p q} (ho : o.op = .binOp .gtr T x y T') (hx : ev env x = some (.int k p)) (hy : ev env y = some (.int k q)) (h : ¬ (q < p)) : Free C o env m (.bool false) := fr_cmp false ho hx hy rfl ⟨fun h' => (h h').elim, fun h' => nomatch h'⟩
theorem ExL.gtr {d : Nat} {T x y T' k p q} (ho : o.op = .binOp .gtr T x y T') (hx : ev env x = some (.int k p)) (hy : ev env y = some (.int k q)) (hg : wantB l env o = some true) (hd : o.dst = some d) (hlt : Nat.blt d C.n = true) (ht : q < p → ExL C l rest (((d, (.bool true)) :: env)) m K) (hf : ¬ (q < p) → ExL C l rest (((d, (.bool false)) :: env)) m K) : ExL C l (o :: rest) env m K := by
  by_cases h : q < p
  · exact ExL.free (fr_gtr_t ho hx hy h) hg hd hlt (ht h)
  · exact ExL.free (fr_gtr_f ho hx hy h) hg hd hlt (hf h)
theorem fr_geq_t {T x y T' k p q} (ho : o.op = .binOp .geq T x y T') (hx : ev env x = some (.int k p)) (hy : ev env y = some (.int k q)) (h : q ≤ p) : Free C o env m (.bool true) := fr_cmp true ho hx hy rfl ⟨fun _ => rfl, fun _ => h⟩
theorem fr_geq_f {T x y T' k p q} (ho : o.op = .binOp .geq T x y T') (hx : ev env x = some (.int k p)) (hy : ev env y = some (.int k q)) (h : ¬ (q ≤ p)) : Free C o env m (.bool false) := fr_cmp false ho hx hy rfl ⟨fun h' => (h h').elim, fun h' => nomatch h'⟩
theorem ExL.geq {d : Nat} {T x y T' k p q} (ho : o.op = .binOp .geq T x y T') (hx : ev env x = some (.int k p)) (hy : ev env y = some (.int k q)) (hg : wantB l env o = some true) (hd : o.dst = some d) (hlt : Nat.blt d C.n = true) (ht : q ≤ p → ExL C l rest (((d, (.bool true)) :: env)) m K) (hf : ¬ (q ≤ p) → ExL C l rest (((d, (.bool false)) :: env)) m K) : ExL C l (o :: rest) env m K := by
  by_cases h : q ≤ p
  · exact ExL.free (fr_geq_t ho hx hy h) hg hd hlt (ht h)
  · exact ExL.free (fr_geq_f ho hx hy h) hg hd hlt (hf h)
/-! arithmetic -/
theorem fr_add {T x y T' k p q} (ho : o.op = .binOp .add T x y T') (hx : ev env x = some (.int k p)) (hy : ev env y = some (.int k q)) : Free C o env m (.int k (k.wrap (p + q))) := by
  intro a w hr _
  have h : (binOp .add T (.int k p) (.int k q)).run C.P w = .ok (.int k (k.wrap (p + q))) w := by simp [binOp, Op.intArith]
  simp only [execOp, ho, hr.ev hx, hr.ev hy, Sem.run_bind, eqGuard_int, Result.andThen_ok, h]; rfl
theorem fr_sub {T x y T' k p q} (ho : o.op = .binOp .sub T x y T') (hx : ev env x = some (.int k p)) (hy : ev env y = some (.int k q)) : Free C o env m (.int k (k.wrap (p - q))) := by
  intro a w hr _
  have h : (binOp .sub T (.int k p) (.int k q)).run C.P w = .ok (.int k (k.wrap (p - q))) w := by simp [binOp, Op.intArith]
  simp only [execOp, ho, hr.ev hx, hr.ev hy, Sem.run_bind, eqGuard_int, Result.andThen_ok, h]; rfl
theorem fr_mul {T x y T' k p q} (ho : o.op = .binOp .mul T x y T') (hx : ev env x = some (.int k p)) (hy : ev env y = some (.int k q)) : Free C o env m (.int k (k.wrap (p * q))) := by
  intro a w hr _
  have h : (binOp .mul T (.int k p) (.int k q)).run C.P w = .ok (.int k (k.wrap (p * q))) w := by simp [binOp, Op.intArith]
  simp only [execOp, ho, hr.ev hx, hr.ev hy, Sem.run_bind, eqGuard_int, Result.andThen_ok, h]; rfl
theorem fr_quo {T x y T' k p q} (ho : o.op = .binOp .quo T x y T') (hx : ev env x = some (.int k p)) (hy : ev env y = some (.int k q)) (hq : q ≠ 0) : Free C o env m (.int k (k.wrap (p.tdiv q))) := by
  intro a w hr _
  have h : (binOp .quo T (.int k p) (.int k q)).run C.P w = .ok (.int k (k.wrap (p.tdiv q))) w := by simp [binOp, Op.intDiv, hq]
  simp only [execOp, ho, hr.ev hx, hr.ev hy, Sem.run_bind, eqGuard_int, Result.andThen_ok, h]; rfl
theorem fr_rem {T x y T' k p q} (ho : o.op = .binOp .rem T x y T') (hx : ev env x = some (.int k p)) (hy : ev env y = some (.int k q)) (hq : q ≠ 0) : Free C o env m (.int k (p.tmod q)) := by
  intro a w hr _
  have h : (binOp .rem T (.int k p) (.int k q)).run C.P w = .ok (.int k (p.tmod q)) w := by simp [binOp, Op.intDiv, hq]
  simp only [execOp, ho, hr.ev hx, hr.ev hy, Sem.run_bind, eqGuard_int, Result.andThen_ok, h]; rfl
theorem wrap_i64 {z : Int} (h1 : -9223372036854775808 ≤ z) (h2 : z ≤ 9223372036854775807) : IntKind.i64.wrap z = z := IntWalk.i64_in z ⟨h1, h2⟩
theorem fr_add64 {T x y T' p q} (ho : o.op = .binOp .add T x y T') (hx : ev env x = some (.int .i64 p)) (hy : ev env y = some (.int .i64 q)) (h : -9223372036854775808 ≤ p + q ∧ p + q ≤ 9223372036854775807) : Free C o env m (.int .i64 (p + q)) := by
  have := fr_add (C := C) (m := m) ho hx hy
  rwa [wrap_i64 h.1 h.2] at this
theorem fr_sub64 {T x y T' p q} (ho : o.op = .binOp .sub T x y T') (hx : ev env x = some (.int .i64 p)) (hy : ev env y = some (.int .i64 q)) (h : -9223372036854775808 ≤ p - q ∧ p - q ≤ 9223372036854775807) : Free C o env m (.int .i64 (p - q)) := by
  have := fr_sub (C := C) (m := m) ho hx hy
  rwa [wrap_i64 h.1 h.2] at this
theorem fr_mul64 {T x y T' p q} (ho : o.op = .binOp .mul T x y T') (hx : ev env x = some (.int .i64 p)) (hy : ev env y = some (.int .i64 q)) (h : -9223372036854775808 ≤ p * q ∧ p * q ≤ 9223372036854775807) : Free C o env m (.int .i64 (p * q)) := by
  have := fr_mul (C := C) (m := m) ho hx hy
  rwa [wrap_i64 h.1 h.2] at this
theorem fr_quo64 {T x y T' p q} (ho : o.op = .binOp .quo T x y T') (hx : ev env x = some (.int .i64 p)) (hy : ev env y = some (.int .i64 q)) (h : 0 ≤ p ∧ p ≤ 9223372036854775807 ∧ 0 < q) : Free C o env m (.int .i64 (p / q)) := by
  have := fr_quo (C := C) (m := m) ho hx hy (by omega)
  have h1 : p / q ≤ p := Int.ediv_le_self q h.1
  have h2 : 0 ≤ p / q := Int.ediv_nonneg h.1 (by omega)
  rwa [Int.tdiv_eq_ediv_of_nonneg h.1, wrap_i64 (by omega) (by omega)] at this
theorem fr_remP {T x y T' k p q} (ho : o.op = .binOp .rem T x y T') (hx : ev env x = some (.int k p)) (hy : ev env y = some (.int k q)) (h : 0 ≤ p ∧ 0 < q) : Free C o env m (.int k (p % q)) := by
  have := fr_rem (C := C) (m := m) ho hx hy (by omega)
  rwa [Int.tmod_eq_emod_of_nonneg h.1] at this
theorem fr_neg {T x k p} (ho : o.op = .unOp .neg T x) (hx : ev env x = some (.int k p)) : Free C o env m (.int k (k.wrap (-p))) := by
  intro a w hr _
  simp only [execOp, ho, hr.ev hx, Op.unary, Op.intArith, Int.zero_sub]; rfl
theorem fr_conv {S D x k k' p} (ho : o.op = .convert S D x) (hx : ev env x = some (.int k p)) (hS : C.P.underlying S = some (.int k)) (hD : C.P.underlying D = some (.int k')) : Free C o env m (.int k' (k'.wrap p)) := by
  intro a w hr _
  simp only [execOp, ho, hr.ev hx, convert, Sem.run_bind, run_underlying hS, run_underlying hD, Result.andThen_ok, Conv.intToInt]; rfl
end Go.Sx
namespace Go.Sx
open Go Go.RowKit
variable {C : Cx} {env env' : Env} {m m' : List Ent} {Q Q' : Post} {l rest : List Oper} {o : Oper} {K : Env → List Ent → Prop}

/-! ### Reading memory -/
def offA (A : Option Addr) (k : Nat) : Option Addr := A.map (·.add k)
/-- From A on the cells hold these. -/
def Rd (w : World) (A : Option Addr) (cs : List Value) : Prop := ∀ j u, cs[j]? = some u → ∃ ad, A = some ad ∧ w.cell? (ad.add j) = some u
def RdB (base : Nat) (w : World) (A : Option Addr) (cs : List Value) : Prop := ∀ j u, cs[j]? = some u → ∃ ad, A = some ad ∧ ad.block < base ∧ w.cell? (ad.add j) = some u
theorem add_block (a : Addr) (n : Nat) : (a.add n).block = a.block := by unfold Addr.add; split <;> rfl
theorem add_at (g o j : Nat) : (⟨g, o, none⟩ : Addr).add j = ⟨g, o + j, none⟩ := by unfold Addr.add; split <;> simp_all
theorem Rd.base {w A cs} (h : Rd w A cs) : RdB w.heap.size w A cs := fun j u hj => by
  obtain ⟨ad, rfl, hc⟩ := h j u hj
  exact ⟨ad, rfl, by have := World.block_lt_of_cell? _ _ hc; rwa [add_block] at this, hc⟩
theorem RdB.rd {base w A cs} (h : RdB base w A cs) : Rd w A cs := fun j u hj => by
  obtain ⟨ad, rfl, _, hc⟩ := h j u hj
  exact ⟨ad, rfl, hc⟩
theorem RdB.keep {base w w' A cs} (h : RdB base w A cs) (hb : Below base w w') : RdB base w' A cs := fun j u hj => by
  obtain ⟨ad, rfl, hlt, hc⟩ := h j u hj
  exact ⟨ad, rfl, hlt, by rw [hb.cell (by rw [add_block]; exact hlt)]; exact hc⟩
theorem Rd.keep {w w' A cs} (h : Rd w A cs) (hb : Below w.heap.size w w') : Rd w' A cs := (h.base.keep hb).rd
theorem Rd.nil (w : World) (A : Option Addr) : Rd w A [] := fun j u h => by simp at h
/-- In every world that is told so. -/
def Reads (C : Cx) (m : List Ent) (A : Option Addr) (cs : List Value) : Prop := ∀ w, Holds C.base C.w0 m w → Rd w A cs
theorem Reads.old {A cs} (h : RdB C.base C.w0 A cs) : Reads C m A cs := fun _ hw => (h.keep hw.below).rd
theorem Reads.row {i : Nat} {A n cap E sz} {xs : List Value} (hi : m[i]? = some (.row (.slice A n cap) E sz n xs)) : Reads C m A xs := fun w hw j u hj => by
  have h := hw.all _ (List.mem_of_getElem? hi)
  cases A with
  | none =>
    rcases h.2 with ⟨_, rfl⟩ | ⟨g, cap, cur, hv, _⟩
    · have : xs = [] := List.eq_nil_of_length_eq_zero (by simpa using h.1)
      simp [this] at hj
    · simp at hv
  | some ad =>
    rcases h.2 with ⟨hv, _⟩ | ⟨g, cap', cur, hv, hrest⟩
    · simp at hv
    · simp only [Value.slice.injEq, Option.some.injEq] at hv
      obtain ⟨rfl, -, rfl⟩ := hv
      refine ⟨⟨g, 0, none⟩, rfl, ?_⟩
      exact World.ownsRow.cells (v := .slice (some ⟨g, 0, none⟩) n cap) h (g := g) rfl j u hj
theorem Reads.blk {i b : Nat} {cs : List Value} {T} (hi : m[i]? = some (.blk b cs T)) : Reads C m (some ⟨b, 0, none⟩) cs := fun w hw j u hj => by
  have h := hw.all _ (List.mem_of_getElem? hi)
  refine ⟨_, rfl, ?_⟩
  rw [add_at, cell_of_row w b _ _ _ _ h.2]
  simpa using hj
theorem Reads.seg {A cs} (h : Reads C m A cs) (k : Nat) : Reads C m (offA A k) (cs.drop k) := fun w hw j u hj => by
  rw [List.getElem?_drop] at hj
  obtain ⟨ad, rfl, hc⟩ := h w hw _ u hj
  exact ⟨ad.add k, rfl, by rw [Addr.add_add]; exact hc⟩
theorem Reads.pre {A} {cs cs' : List Value} (h : Reads C m A cs) (hp : ∀ (j : Nat) (u : Value), cs'[j]? = some u → cs[j]? = some u) : Reads C m A cs' := fun w hw j u hj => h w hw j u (hp j u hj)
theorem Rd.pre {w A} {cs cs' : List Value} (h : Rd w A cs) (hp : ∀ (j : Nat) (u : Value), cs'[j]? = some u → cs[j]? = some u) : Rd w A cs' := fun j u hj => h j u (hp j u hj)
theorem Rd.seg {w A cs} (h : Rd w A cs) (k : Nat) : Rd w (offA A k) (cs.drop k) := fun j u hj => by
  rw [List.getElem?_drop] at hj
  obtain ⟨ad, rfl, hc⟩ := h _ u hj
  exact ⟨ad.add k, rfl, by rw [Addr.add_add]; exact hc⟩
/-- What a pointer leads to. -/
def CellO (C : Cx) (m : List Ent) (p : Option Addr) (v : Value) : Prop := ∀ w, Holds C.base C.w0 m w → ∃ ad, p = some ad ∧ w.cell? ad = some v
def SegO (C : Cx) (m : List Ent) (p : Option Addr) (cs : List Value) : Prop := ∀ w, Holds C.base C.w0 m w → ∃ ad, p = some ad ∧ ∀ j u, cs[j]? = some u → w.cell? (ad.add j) = some u
theorem CellO.blk {i b k : Nat} {cs : List Value} {T v} (hi : m[i]? = some (.blk b cs T)) (hv : cs[k]? = some v) : CellO C m (some ⟨b, k, none⟩) v := fun w hw => by
  have h := hw.all _ (List.mem_of_getElem? hi)
  refine ⟨_, rfl, ?_⟩
  rw [cell_of_row w b _ _ _ _ h.2]
  simpa using hv
theorem CellO.of {A} {cs : List Value} {k : Nat} {v} (h : Reads C m A cs) (hv : cs[k]? = some v) : CellO C m (offA A k) v := fun w hw => by
  obtain ⟨ad, rfl, hc⟩ := h w hw k v hv
  exact ⟨ad.add k, rfl, hc⟩
theorem SegO.blk {i b k : Nat} {cs seg : List Value} {T} (hi : m[i]? = some (.blk b cs T)) (hv : ∀ (j : Nat) (u : Value), seg[j]? = some u → cs[k + j]? = some u) : SegO C m (some ⟨b, k, none⟩) seg := fun w hw => by
  have h := hw.all _ (List.mem_of_getElem? hi)
  refine ⟨_, rfl, fun j u hj => ?_⟩
  rw [add_at, cell_of_row w b _ _ _ _ h.2]
  simpa using hv j u hj
theorem SegO.whole {i b : Nat} {cs : List Value} {T} (hi : m[i]? = some (.blk b cs T)) : SegO C m (some ⟨b, 0, none⟩) cs := SegO.blk hi fun j u hj => by rwa [Nat.zero_add]
theorem SegO.part {i b k : Nat} {cs : List Value} {T} (n : Nat) (hi : m[i]? = some (.blk b cs T)) : SegO C m (some ⟨b, k, none⟩) ((cs.drop k).take n) := SegO.blk hi fun j u hj => by
  rw [List.getElem?_take] at hj
  split at hj
  · rwa [List.getElem?_drop] at hj
  · cases hj
theorem SegO.of {A} {cs seg : List Value} {k : Nat} (h : Reads C m A cs) (hne : seg ≠ []) (hv : ∀ (j : Nat) (u : Value), seg[j]? = some u → cs[k + j]? = some u) : SegO C m (offA A k) seg := fun w hw => by
  cases seg with
  | nil => exact absurd rfl hne
  | cons x t =>
    obtain ⟨ad, rfl, _⟩ := h w hw (k + 0) x (hv 0 x rfl)
    refine ⟨ad.add k, rfl, fun j u hj => ?_⟩
    obtain ⟨ad', h1, hc⟩ := h w hw (k + j) u (hv j u hj)
    obtain rfl := Option.some.inj h1
    rwa [Addr.add_add]
def aggD : TypeDesc → Bool
  | .struct _ => true
  | .array _ _ => true
  | _ => false
theorem run_isAgg {P : Program} {T d} (h : P.underlying T = some d) (w : World) : (isAgg T).run P w = .ok (aggD d) w := by
  unfold isAgg
  rw [Sem.run_bind, run_underlying h w]
  cases d <;> rfl
theorem run_sizeOf {P : Program} {T n} (h : (P.info? T).map (·.size) = some n) (w : World) : (sizeOf T).run P w = .ok n w := by
  cases hq : P.info? T with
  | none => simp [hq] at h
  | some i => simp [sizeOf, typeInfo, Sem.run_bind, hq] at h ⊢; exact h
theorem run_load1 {P : Program} {T d} (h : P.underlying T = some d) (hd : aggD d = false) {w : World} {ad v} (hc : w.cell? ad = some v) : (loadVar T ad).run P w = .ok v w := by
  simp [loadVar, Sem.run_bind, run_isAgg h, hd, load, Sem.run, hc]
theorem run_loadN {P : Program} {T d} (h : P.underlying T = some d) (hd : aggD d = true) {w : World} {ad} {cs : List Value} (hs : (P.info? T).map (·.size) = some cs.length) (hc : ∀ (j : Nat) (u : Value), cs[j]? = some u → w.cell? (ad.add j) = some u) : (loadVar T ad).run P w = .ok (.agg cs.toArray) w := by
  have hl := run_loadCells_list (P := P) w ad cs hc
  simp [loadVar, Sem.run_bind, run_isAgg h, hd, run_sizeOf hs, hl]
theorem fr_load {T x p v d} (ho : o.op = .load T x) (hx : ev env x = some (.pointer p)) (hT : C.P.underlying T = some d) (hd : aggD d = false) (hc : CellO C m p v) : Free C o env m v := by
  intro a w hr hw
  obtain ⟨ad, rfl, hc'⟩ := hc w hw
  simp only [execOp, ho, hr.ev hx, Instr.loadAt, Instr.sureAddr, Sem.run_bind, Sem.run_pure, Result.andThen_ok, run_load1 hT hd hc']
theorem fr_loadN {T x p} {cs : List Value} {d} (ho : o.op = .load T x) (hx : ev env x = some (.pointer p)) (hT : C.P.underlying T = some d) (hd : aggD d = true) (hs : (C.P.info? T).map (·.size) = some cs.length) (hc : SegO C m p cs) : Free C o env m (.agg cs.toArray) := by
  intro a w hr hw
  obtain ⟨ad, rfl, hc'⟩ := hc w hw
  simp only [execOp, ho, hr.ev hx, Instr.loadAt, Instr.sureAddr, Sem.run_bind, Sem.run_pure, Result.andThen_ok, run_loadN hT hd hs hc']
/-! addresses -/
theorem run_fieldPlace {P : Program} {ad : Addr} {f : Field} {n} (hs : (P.info? f.type).map (·.size) = some n) (hn : Nat.beq n 0 = false) (w : World) : (fieldPlace ad f).run P w = .ok (ad.add f.offset) w := by
  have : n ≠ 0 := fun e => by subst e; simp at hn
  simp [fieldPlace, Sem.run_bind, run_sizeOf hs, this]
theorem fr_fieldAddr_b {S x} {k : Nat} {fs : Array Field} {f : Field} {f b q n} (ho : o.op = .fieldAddr S x k) (hx : ev env x = some (.pointer (some ⟨b, q, none⟩))) (hS : C.P.underlying S = some (.struct fs)) (hf : fs[k]? = some f) (hs : (C.P.info? f.type).map (·.size) = some n) (hn : Nat.beq n 0 = false) : Free C o env m (.pointer (some ⟨b, q + f.offset, none⟩)) := by
  intro a w hr hw
  have h1 := run_fieldPlace (P := C.P) (ad := ⟨b, q, none⟩) (f := f) hs hn w
  rw [add_at] at h1
  simp only [execOp, ho, hr.ev hx, Instr.fieldAt, Sem.run_bind, run_underlying hS, Result.andThen_ok, hf, Instr.sureAddr, Sem.run_pure, h1]
theorem fr_fieldAddr_o {S x} {k : Nat} {fs : Array Field} {f : Field} {f A q n} (ho : o.op = .fieldAddr S x k) (hx : ev env x = some (.pointer (offA A q))) (hA : A.isSome = true) (hS : C.P.underlying S = some (.struct fs)) (hf : fs[k]? = some f) (hs : (C.P.info? f.type).map (·.size) = some n) (hn : Nat.beq n 0 = false) : Free C o env m (.pointer (offA A (q + f.offset))) := by
  intro a w hr hw
  cases A with
  | none => simp at hA
  | some ad =>
    have h1 := run_fieldPlace (P := C.P) (ad := ad.add q) (f := f) hs hn w
    rw [Addr.add_add] at h1
    simp only [execOp, ho, hr.ev hx, offA, Option.map, Instr.fieldAt, Sem.run_bind, run_underlying hS, Result.andThen_ok, hf, Instr.sureAddr, Sem.run_pure, h1]
/-- An element of a slice. -/
theorem fr_indexAddr {S x y E} {A : Option Addr} {n c : Nat} {k} {i : Int} {sz : Nat} (ho : o.op = .indexAddr S x y) (hx : ev env x = some (.slice A n c)) (hy : ev env y = some (.int k i)) (hS : C.P.underlying S = some (.slice E)) (hs : (C.P.info? E).map (·.size) = some sz) (hA : A.isSome = true) (hi : 0 ≤ i ∧ i < n) : Free C o env m (.pointer (offA A (i.toNat * sz))) := by
  intro a w hr hw
  cases A with
  | none => simp at hA
  | some ad =>
    simp only [execOp, ho, hr.ev hx, hr.ev hy, Instr.indexAt, Sem.run_bind, asIntOf, Sem.run_pure, run_underlying hS, Result.andThen_ok, hi, and_self, if_true, run_sizeOf hs, offA, Option.map]
/-- An element of an array behind an address. -/
theorem fr_indexAddr_b {S x y E} {N b q : Nat} {k} {i : Int} {sz : Nat} (ho : o.op = .indexAddr S x y) (hx : ev env x = some (.pointer (some ⟨b, q, none⟩))) (hy : ev env y = some (.int k i)) (hS : C.P.underlying S = some (.array N E)) (hs : (C.P.info? E).map (·.size) = some sz) (hi : 0 ≤ i ∧ i < N) : Free C o env m (.pointer (some ⟨b, q + i.toNat * sz, none⟩)) := by
  intro a w hr hw
  simp only [execOp, ho, hr.ev hx, hr.ev hy, Instr.indexAt, Sem.run_bind, asIntOf, Sem.run_pure, run_underlying hS, Instr.sureAddr, Result.andThen_ok, hi, and_self, if_true, run_sizeOf hs, add_at]
/-! parts of values -/
theorem run_part1 {P : Program} {T d} (h : P.underlying T = some d) (hd : aggD d = false) {cs : Array Value} {k : Nat} {v} (hv : cs[k]? = some v) (w : World) : (part T cs k).run P w = .ok v w := by
  simp [part, Sem.run_bind, run_isAgg h, hd, hv]
theorem run_partN {P : Program} {T d n} (h : P.underlying T = some d) (hd : aggD d = true) (hs : (P.info? T).map (·.size) = some n) {cs : List Value} {k : Nat} (w : World) : (part T cs.toArray k).run P w = .ok (.agg ((cs.drop k).take n).toArray) w := by
  simp [part, Sem.run_bind, run_isAgg h, hd, run_sizeOf hs, List.extract_toArray, List.extract_eq_take_drop]
theorem fr_index {S x y} {N : Nat} {E} {cs : List Value} {k} {i : Int} {d v} {sz : Nat} (ho : o.op = .index S x y) (hx : ev env x = some (.agg (List.toArray cs))) (hy : ev env y = some (.int k i)) (hS : C.P.underlying S = some (.array N E)) (hE : C.P.underlying E = some d) (hd : aggD d = false) (hs : (C.P.info? E).map (·.size) = some sz) (hi : 0 ≤ i ∧ i < N) (hv : cs[i.toNat * sz]? = some v) : Free C o env m v := by
  intro a w hr hw
  have h1 := run_part1 (P := C.P) (T := E) (cs := cs.toArray) (k := i.toNat * sz) hE hd (by simpa using hv) w
  simp only [execOp, ho, hr.ev hx, hr.ev hy, Instr.index, Sem.run_bind, asIntOf, Sem.run_pure, run_underlying hS, Result.andThen_ok, hi, and_self, if_true, run_sizeOf hs, h1]
theorem fr_indexN {S x y} {N : Nat} {E} {cs : List Value} {k} {i : Int} {d} {sz : Nat} (ho : o.op = .index S x y) (hx : ev env x = some (.agg (List.toArray cs))) (hy : ev env y = some (.int k i)) (hS : C.P.underlying S = some (.array N E)) (hE : C.P.underlying E = some d) (hd : aggD d = true) (hs : (C.P.info? E).map (·.size) = some sz) (hi : 0 ≤ i ∧ i < N) : Free C o env m (.agg ((cs.drop (i.toNat * sz)).take sz).toArray) := by
  intro a w hr hw
  have h1 := run_partN (P := C.P) (T := E) (cs := cs) (k := i.toNat * sz) hE hd hs w
  simp only [execOp, ho, hr.ev hx, hr.ev hy, Instr.index, Sem.run_bind, asIntOf, Sem.run_pure, run_underlying hS, Result.andThen_ok, hi, and_self, if_true, run_sizeOf hs, h1]
/-! len -/
theorem fr_len {x T E A n c} (ho : o.op = .call { callee := .builtin .len, args := #[x], argTypes := #[T] }) (hx : ev env x = some (.slice A n c)) (hT : C.P.underlying T = some (.slice E)) : Free C o env m (.int .i64 n) := by
  intro a w hr hw
  have h1 : (Builtin.len_ #[T] o.type #[.slice A n c]).run C.P w = .ok (.int .i64 n) w := by
    simp [Builtin.len_, Sem.run_bind, run_underlying hT, goInt]
  simp [execOp, ho, resolve, invoke, builtin, hr.ev hx, Sem.run_bind, h1]
theorem fr_min {x y T T' k p q} (ho : o.op = .call { callee := .builtin .min, args := #[x, y], argTypes := #[T, T'] }) (hx : ev env x = some (.int k p)) (hy : ev env y = some (.int k q)) : Free C o env m (.int k (min p q)) := by
  intro a w hr hw
  have h1 : (Builtin.min_ #[T, T'] o.type #[.int k p, .int k q]).run C.P w = .ok (.int k (min p q)) w := by
    simp [Builtin.min_, Builtin.min2]; omega
  simp [execOp, ho, resolve, invoke, builtin, hr.ev hx, hr.ev hy, Sem.run_bind, h1]
end Go.Sx
namespace Go.Sx
open Go Go.RowKit
variable {C : Cx} {env env' : Env} {m m' : List Ent} {Q Q' : Post} {l rest : List Oper} {o : Oper} {K : Env → List Ent → Prop}

/-! ### Operations that make or turn memory -/
theorem Ent.apart_one (e : Ent) : [e].Pairwise Ent.apart := by simp
theorem Holds.new {w w' e} (h : Holds C.base C.w0 m w) (hb : Below w.heap.size w w') (he : Ent.holds w.heap.size w' e) : Holds C.base C.w0 (e :: m) w' :=
  h.add (new := [e]) hb (fun f hf => by rw [List.mem_singleton] at hf; subst hf; exact he) (Ent.apart_one e)
theorem holds_alloc (w : World) (cs : List Value) (T : TypeId) : Ent.holds w.heap.size (w.alloc (.cells cs.toArray T)) (.blk w.heap.size cs T) := ⟨Nat.le_refl _, heap_alloc_new w _⟩
theorem below_alloc' (w : World) (o : Obj) : Below w.heap.size w (w.alloc o) := (Below.refl _ _).alloc (Nat.le_refl _) o
theorem op_alloc {d : Nat} {T z cs} (ho : o.op = .alloc T) (hz : (C.P.info? T).bind (·.zero) = some z) (hc : z.cells = List.toArray cs) (hd : o.dst = some d) (hlt : Nat.blt d C.n = true)
    (h : ∀ b, K (((d, (.pointer (some ⟨b, 0, none⟩))) :: env)) (.blk b cs T :: m)) : Op1 C o env m K := by
  refine Op1.of_run hd hlt fun a w hr hh => ⟨_, w.alloc (.cells cs.toArray T), _, ?_, hh.new (below_alloc' w _) (holds_alloc w cs T), h _⟩
  cases hq : C.P.info? T with
  | none => simp [hq] at hz
  | some i =>
    simp only [hq, Option.bind_some] at hz
    simp [execOp, ho, Instr.alloc, Sem.run_bind, zeroValue, typeInfo, hq, hz, newVar, newRow, newObj, Sem.run, hc]
theorem op_box {d : Nat} {T x v cs} (ho : o.op = .box T x) (hx : ev env x = some v) (hc : v.cells = List.toArray cs) (hd : o.dst = some d) (hlt : Nat.blt d C.n = true)
    (h : ∀ b, K (((d, (.pointer (some ⟨b, 0, none⟩))) :: env)) (.blk b cs T :: m)) : Op1 C o env m K := by
  refine Op1.of_run hd hlt fun a w hr hh => ⟨_, w.alloc (.cells cs.toArray T), _, ?_, hh.new (below_alloc' w _) (holds_alloc w cs T), h _⟩
  simp [execOp, ho, hr.ev hx, Instr.box, Sem.run_bind, newVar, newRow, newObj, Sem.run, hc]
theorem turn_blk {i b cs cs' T w w'} (h : Holds C.base C.w0 m w) (hi : m[i]? = some (.blk b cs T)) (hw : w' = w.setRow b cs'.toArray) : Holds C.base C.w0 (m.set i (.blk b cs' T)) w' := by
  subst hw
  obtain ⟨hlt, hg⟩ := List.getElem?_eq_some_iff.1 hi
  have hm : m = m.take i ++ .blk b cs T :: m.drop (i + 1) := by rw [← hg, List.getElem_cons_drop, List.take_append_drop]
  have hm' : m.set i (.blk b cs' T) = m.take i ++ .blk b cs' T :: m.drop (i + 1) := by rw [List.set_eq_take_append_cons_drop, if_pos hlt]
  rw [hm']
  have hb := h.all _ (List.mem_of_getElem? hi)
  rw [hm] at h
  refine h.turn ⟨rfl, rfl, rfl, by simp, fun k hk hne => setRow_other w b k _ (fun e => hne (by simp [Ent.block, e]))⟩ ⟨hb.1, setRow_heap w b _ _ T _ hb.2⟩ (fun k hk => .inl hk)
/-- What a store of the values 'new' from place k on makes of a row. -/
def put (cs : List Value) (k : Nat) (new : List Value) : List Value := cs.take k ++ new ++ cs.drop (k + new.length)
theorem op_store {i b k cs T T' x y v new n} (ho : o.op = .store T x y) (hx : ev env x = some (.pointer (some ⟨b, k, none⟩))) (hy : ev env y = some v) (hc : v.cells = List.toArray new) (hone : new.all (·.oneCell') = true) (hs : (C.P.info? T).map (·.size) = some n) (hn : Nat.beq new.length n = true) (hi : m[i]? = some (.blk b cs T')) (hk : k + new.length ≤ cs.length) (hd : o.dst = none)
    (h : K env (m.set i (.blk b (put cs k new) T'))) : Op1 C o env m K := by
  refine Op1.of_skip hd fun a w hr hh => ⟨w.setRow b (put cs k new).toArray, _, ?_, turn_blk hh hi rfl, h⟩
  have hb := hh.all _ (List.mem_of_getElem? hi)
  have hl : new.length = n := Nat.eq_of_beq_eq_true hn
  have h1 := run_storeCells_at C.P b k T' new 0 cs.toArray w hb.2 (by simpa using hk) (by simpa using hone)
  simp only [Nat.add_zero] at h1
  simp [execOp, ho, hr.ev hx, hr.ev hy, Instr.storeAt, Instr.sureAddr, Sem.run_bind, storeVar, run_sizeOf hs, hc, hl, h1, put]
theorem turn_row {i A c E sz n xs xs' w w' g cap cur} (h : Holds C.base C.w0 m w) (hi : m[i]? = some (.row (.slice A n c) E sz n xs)) (hA : A = some ⟨g, 0, none⟩) (hg : w.heap[g]? = some (.cells cur E (0, 0))) (hw : w' = w.setRow g cap) (hrow : w'.ownsRow C.base E sz (.slice A n c) n xs') : Holds C.base C.w0 (m.set i (.row (.slice A n c) E sz n xs')) w' := by
  subst hw hA
  obtain ⟨hlt, hg'⟩ := List.getElem?_eq_some_iff.1 hi
  have hm : m = m.take i ++ .row (.slice (some ⟨g, 0, none⟩) n c) E sz n xs :: m.drop (i + 1) := by rw [← hg', List.getElem_cons_drop, List.take_append_drop]
  have hm' : m.set i (.row (.slice (some ⟨g, 0, none⟩) n c) E sz n xs') = m.take i ++ .row (.slice (some ⟨g, 0, none⟩) n c) E sz n xs' :: m.drop (i + 1) := by rw [List.set_eq_take_append_cons_drop, if_pos hlt]
  rw [hm']
  rw [hm] at h
  refine h.turn ⟨rfl, rfl, rfl, by simp, fun k hk hne => setRow_other w g k _ (fun e => hne (by simp [Ent.block, Value.ownBlock, e]))⟩ hrow (fun k hk => .inl hk)
theorem take_put {cur new : List Value} {k N : Nat} (h : k + new.length ≤ N) (hN : N ≤ cur.length) : (cur.take k ++ new ++ cur.drop (k + new.length)).take N = put (cur.take N) k new := by
  have hl : (cur.take k ++ new).length = k + new.length := by simp only [List.length_append, List.length_take]; omega
  rw [List.take_append, hl, List.take_of_length_le (by omega), put, List.take_take, show min k N = k by omega, List.drop_take]
theorem op_storeRow {i : Nat} {A n c E sz xs T x y v new k n'} (ho : o.op = .store T x y) (hx : ev env x = some (.pointer (offA A k))) (hy : ev env y = some v) (hc : v.cells = List.toArray new) (hone : new.all (·.oneCell') = true) (hs : (C.P.info? T).map (·.size) = some n') (hn : Nat.beq new.length n' = true) (hi : m[i]? = some (.row (.slice A n c) E sz n xs)) (hk : k + new.length ≤ xs.length) (hne : new ≠ []) (hd : o.dst = none)
    (h : K env (m.set i (.row (.slice A n c) E sz n (put xs k new)))) : Op1 C o env m K := by
  refine Op1.of_skip hd fun a w hr hh => ?_
  have hr0 := hh.all _ (List.mem_of_getElem? hi)
  have hpos : 0 < new.length := List.length_pos_iff.2 hne
  have hl : new.length = n' := Nat.eq_of_beq_eq_true hn
  rcases hr0.2 with ⟨_, hn0⟩ | ⟨g, cap, cur, hv, hb, hg, hnc, hcm, hcs, ht⟩
  · have := hr0.1; rw [hn0] at this; omega
  · simp only [Value.slice.injEq] at hv
    obtain ⟨rfl, -, rfl⟩ := hv
    have hxl : xs.length = n * sz := hr0.1
    have hnle : n * sz ≤ c * sz := Nat.mul_le_mul_right _ hnc
    have h1 := run_storeCells_at C.P g k E new 0 cur w hg (by omega) (by simpa using hone)
    simp only [Nat.add_zero] at h1
    refine ⟨w.setRow g (cur.toList.take k ++ new ++ cur.toList.drop (k + new.length)).toArray, _, ?_, turn_row hh hi rfl hg rfl ?_, h⟩
    · simp only [execOp, ho, hr.ev hx, hr.ev hy, offA, Option.map, add_at, Nat.zero_add, Instr.storeAt, Instr.sureAddr, Sem.run_bind, Sem.run_pure, storeVar, run_sizeOf hs, hc, Result.andThen_ok, List.size_toArray, hl, ne_eq, not_true_eq_false, if_false, h1]
    · have hlen : (put xs k new).length = n * sz := by simp only [put, List.length_append, List.length_take, List.length_drop]; omega
      refine ⟨hlen, .inr ⟨g, c, _, rfl, hb, setRow_heap w g cur _ E _ hg, hnc, hcm, ?_, ?_⟩⟩
      · simp only [List.size_toArray, List.length_append, List.length_take, List.length_drop, Array.length_toList]; omega
      · subst ht
        exact take_put (by omega) (by simp; omega)
end Go.Sx
namespace Go.Sx
open Go Go.RowKit
variable {C : Cx} {env env' : Env} {m m' : List Ent} {Q Q' : Post} {l rest : List Oper} {o : Oper} {K : Env → List Ent → Prop}

/-! ### Slices that are made -/
theorem foldl_set_cells (off : Nat) : ∀ (v : List Value) (k : Nat) (cs : Array Value), off + k + v.length ≤ cs.size →
    ((v.zipIdx k).foldl (fun cs (c, j) => cs.setIfInBounds (off + j) c) cs).toList = cs.toList.take (off + k) ++ v ++ cs.toList.drop (off + k + v.length)
  | [], k, cs, _ => by simp
  | x :: t, k, cs, h => by
    simp only [List.length_cons] at h
    rw [List.zipIdx_cons, List.foldl_cons, foldl_set_cells off t (k + 1) _ (by simp; omega)]
    have hlt : off + k < cs.toList.length := by simp; omega
    simp only [Array.toList_setIfInBounds, List.length_cons]
    rw [List.set_eq_take_append_cons_drop, if_pos hlt]
    have h1 : (cs.toList.take (off + k) ++ x :: cs.toList.drop (off + k + 1)).take (off + (k + 1)) = cs.toList.take (off + k) ++ [x] := by
      rw [List.take_append]
      simp only [List.length_take]
      rw [show off + (k + 1) - min (off + k) cs.toList.length = 1 by omega, List.take_of_length_le (by simp only [List.length_take]; omega)]
      rfl
    have h2 : (cs.toList.take (off + k) ++ x :: cs.toList.drop (off + k + 1)).drop (off + (k + 1) + t.length) = cs.toList.drop (off + k + (t.length + 1)) := by
      rw [List.drop_append]
      simp only [List.length_take]
      rw [List.drop_of_length_le (by simp only [List.length_take]; omega), show off + (k + 1) + t.length - min (off + k) cs.toList.length = t.length + 1 by omega, List.drop_succ_cons, List.drop_drop, List.nil_append]
      congr 1; omega
    rw [h1, h2]
    simp [List.append_assoc]
def numbered : Nat → List Value → List (Nat × Value)
  | _, [] => []
  | k, v :: t => (k, v) :: numbered (k + 1) t
theorem fill_seq (sz : Nat) : ∀ (vs : List Value) (k : Nat) (cs : Array Value), (∀ v ∈ vs, v.cells.size = sz) → (k + vs.length) * sz ≤ cs.size →
    ∃ r : Array Value, Instr.fill (fun i => some (i * sz, sz)) cs (numbered k vs) = some r ∧ r.toList = cs.toList.take (k * sz) ++ vs.flatMap (fun v => v.cells.toList) ++ cs.toList.drop ((k + vs.length) * sz)
  | [], k, cs, _, _ => ⟨cs, rfl, by simp⟩
  | v :: t, k, cs, hv, hs => by
    have hv0 : v.cells.size = sz := hv v (by simp)
    simp only [List.length_cons] at hs
    have e1 : (k + (t.length + 1)) * sz = k * sz + sz + t.length * sz := by rw [Nat.add_mul, Nat.add_mul, Nat.one_mul]; omega
    have hle : k * sz + sz ≤ cs.size := by omega
    have hf := foldl_set_cells (k * sz) v.cells.toList 0 cs (by simp; omega)
    simp only [Nat.add_zero, Array.length_toList, hv0] at hf
    obtain ⟨r, h1, h2⟩ := fill_seq sz t (k + 1) ((v.cells.zipIdx.foldl (fun cs (c, j) => cs.setIfInBounds (k * sz + j) c) cs)) (fun u hu => hv u (by simp [hu])) (by
      have : ((v.cells.zipIdx.foldl (fun cs (c, j) => cs.setIfInBounds (k * sz + j) c) cs)).toList.length = cs.size := by
        rw [← Array.foldl_toList, Array.toList_zipIdx, hf]
        simp only [List.length_append, List.length_take, List.length_drop, Array.length_toList, hv0]; omega
      rw [Array.length_toList] at this
      rw [this]
      have : (k + 1 + t.length) = (k + (t.length + 1)) := by omega
      rw [this]; exact hs)
    refine ⟨r, ?_, ?_⟩
    · simp only [numbered, Instr.fill]
      rw [if_neg (by simp; omega)]
      exact h1
    · rw [h2, ← Array.foldl_toList, Array.toList_zipIdx, hf]
      have e2 : (k + 1) * sz = k * sz + sz := by rw [Nat.add_mul, Nat.one_mul]
      have e3 : (k + 1 + t.length) * sz = k * sz + sz + t.length * sz := by rw [Nat.add_mul, Nat.add_mul, Nat.one_mul]
      have hl : (cs.toList.take (k * sz) ++ v.cells.toList).length = k * sz + sz := by simp only [List.length_append, List.length_take, Array.length_toList, hv0]; omega
      simp only [List.length_cons, List.flatMap_cons]
      rw [e1, e2, e3, List.take_append, hl, Nat.sub_self, List.take_zero, List.append_nil, List.take_of_length_le (by omega), List.drop_append, hl, List.drop_of_length_le (by omega), List.drop_drop]
      simp only [List.append_assoc, List.nil_append]
      congr 5; omega
theorem holds_row_new {w : World} {xs : List Value} {E : TypeId} {sz n : Nat} (hx : xs.length = n * sz) (hn : n ≤ maxLen) : Ent.holds w.heap.size (w.alloc (.cells xs.toArray E)) (.row (.slice (some ⟨w.heap.size, 0, none⟩) n n) E sz n xs) :=
  ⟨hx, .inr ⟨w.heap.size, n, xs.toArray, rfl, Nat.le_refl _, heap_alloc_new w _, Nat.le_refl _, hn, by simpa using hx, by rw [← hx]; simp⟩⟩
theorem op_buildSlice {d : Nat} {T E len parts xs vs sz z} (ho : o.op = .buildSlice T len parts) (hp : parts.toList.map Prod.fst = List.range len) (hv : evs env (parts.toList.map Prod.snd) = some vs)
    (hT : C.P.underlying T = some (.slice E)) (hs : (C.P.info? E).map (fun i => (i.size, i.zero.map (·.cells.size))) = some (sz, some z)) (hz : z = sz) (hp0 : Nat.blt 0 sz = true) (hc : vs.all (fun v => v.cells.size == sz) = true) (hb : len * sz ≤ 2 ^ 24) (hx : vs.flatMap (fun v => v.cells.toList) = xs) (hd : o.dst = some d) (hlt : Nat.blt d C.n = true)
    (h : ∀ b, K (((d, (.slice (some ⟨b, 0, none⟩) len len)) :: env)) (.row (.slice (some ⟨b, 0, none⟩) len len) E sz len xs :: m)) : Op1 C o env m K := by
  subst hz
  have hlen : vs.length = len := by
    have h1 : parts.toList.length = len := by have := congrArg List.length hp; simpa using this
    have h2 : ∀ (xs : List Operand) (vs : List Value), evs env xs = some vs → vs.length = xs.length := by
      intro xs
      induction xs with
      | nil => intro vs h; simp [evs] at h; simp [← h]
      | cons x t ih =>
        intro vs h
        simp only [evs] at h
        cases h1 : ev env x with
        | none => simp [h1] at h
        | some v => cases h2 : evs env t with
          | none => simp [h1, h2] at h
          | some us => simp only [h1, h2, Option.some.injEq] at h; subst h; simp [ih us h2]
    rw [h2 _ _ hv]; simp [← h1]
  cases hq : C.P.info? E with
  | none => simp [hq] at hs
  | some i =>
    simp only [hq, Option.map_some, Option.some.injEq, Prod.mk.injEq] at hs
    obtain ⟨hsz, hzo⟩ := hs
    cases hzz : i.zero with
    | none => simp [hzz] at hzo
    | some zv =>
      simp only [hzz, Option.map_some, Option.some.injEq] at hzo
      have hpos : 0 < z := by simpa using hp0
      have hmaxl : len ≤ maxLen := by have : len ≤ len * z := Nat.le_mul_of_pos_right len hpos; unfold maxLen; omega
      refine Op1.of_run hd hlt fun a w hr hh => ?_
      have hpm : (parts.map fun (i, x) => (i, a.eval x)).toList = numbered 0 vs := by
        have h3 := hr.evs hv
        rw [← h3]
        have key : ∀ (ps : List (Nat × Operand)) (k : Nat), ps.map Prod.fst = List.range' k ps.length → ps.map (fun (i, x) => (i, a.eval x)) = numbered k ((ps.map Prod.snd).map a.eval) := by
          intro ps
          induction ps with
          | nil => intro k _; rfl
          | cons p t ih =>
            intro k hk
            simp only [List.map_cons, List.length_cons, List.range'_succ, List.cons.injEq] at hk
            simp only [List.map_cons, numbered]
            rw [ih (k + 1) hk.2, hk.1]
        have h4 : parts.toList.length = len := by have := congrArg List.length hp; simpa using this
        rw [Array.toList_map, key parts.toList 0 (by rw [hp, h4, List.range_eq_range'])]
      have hcs : ∀ v ∈ vs, v.cells.size = z := fun v hv => by have := List.all_eq_true.1 hc v hv; simpa using this
      have hxs : xs.length = len * z := by
        rw [← hx, ← hlen]
        clear hx hlen hpm hv hc
        induction vs with
        | nil => simp
        | cons v t ih => rw [List.flatMap_cons, List.length_append, ih (fun u hu => hcs u (by simp [hu])), Array.length_toList, hcs v (by simp), List.length_cons, Nat.add_mul, Nat.one_mul]; omega
      have key : ∀ cs : Array Value, cs.size = len * z → Instr.fill (fun i => some (i * z, z)) cs (parts.map fun (i, x) => (i, a.eval x)).toList = some xs.toArray := by
        intro cs hcz
        obtain ⟨r, h1, h2⟩ := fill_seq z vs 0 cs hcs (by rw [Nat.zero_add, hlen, hcz]; exact Nat.le_refl _)
        rw [hpm, h1]
        congr 1
        rw [← Array.toList_inj, h2, hx, Nat.zero_mul, Nat.zero_add, hlen, ← hcz]
        simp
      refine ⟨.slice (some ⟨w.heap.size, 0, none⟩) len len, w.alloc (.cells xs.toArray E), _, ?_, hh.new (below_alloc' w _) (holds_row_new hxs hmaxl), h _⟩
      have hrz : ∀ w, (zeroValue E).run C.P w = .ok zv w := fun w => by simp [zeroValue, typeInfo, Sem.run_bind, hq, hzz]
      have hrs : ∀ w, (sizeOf E).run C.P w = .ok z w := run_sizeOf (by simp [hq, hsz])
      have hb' : ¬ len * z > 2 ^ 24 := by omega
      have hk := fun cs h => key cs h
      have hf : ∀ zero : Array Value, Instr.fill (fun i => some (i * z, z)) ((Array.range (len * z)).map (zero[· % zero.size]!)) (parts.map fun (i, x) => (i, a.eval x)).toList = some xs.toArray := fun zero => key _ (by simp)
      have hnr : (newRow E xs.toArray).run C.P w = .ok ⟨w.heap.size, 0, none⟩ (w.alloc (.cells xs.toArray E)) := by simp [newRow, newObj, Sem.run_bind, Sem.run]
      have hb2 : (len * z > 2 ^ 24) = False := eq_false hb'
      by_cases h0 : len * z = 0
      · simp only [execOp, ho, Instr.buildSlice, Sem.run_bind, run_underlying hT, Result.andThen_ok, hrs, hb2, if_false, if_pos h0, Sem.run_pure, hf, hnr]
      · simp only [execOp, ho, Instr.buildSlice, Sem.run_bind, run_underlying hT, Result.andThen_ok, hrs, hb2, if_false, if_neg h0, Sem.run_pure, hrz, hf, hnr]
/-! make -/
def zerosL (zs : List Value) (n : Nat) : List Value := (List.range (n * zs.length)).map fun j => zs.getD (j % zs.length) undef
theorem op_makeSlice {d : Nat} {T E x y n k k' sz zs z} (ho : o.op = .makeSlice T x y) (hx : ev env x = some (.int k (n : Nat))) (hy : ev env y = some (.int k' (n : Nat))) (hT : C.P.underlying T = some (.slice E)) (hs : (C.P.info? E).bind (·.zero) = some z) (hz : z.cells = List.toArray zs) (hi : (C.P.info? E).map (fun i => (i.size, i.bytes)) = some (zs.length, sz)) (hp0 : Nat.blt 0 zs.length = true) (hn : n * sz ≤ 2 ^ 47 ∧ n ≤ maxLen) (hd : o.dst = some d) (hlt : Nat.blt d C.n = true)
    (h : ∀ b, K (((d, (.slice (some ⟨b, 0, none⟩) n n)) :: env)) (.row (.slice (some ⟨b, 0, none⟩) n n) E zs.length n (zerosL zs n) :: m)) : Op1 C o env m K := by
  cases hq : C.P.info? E with
  | none => simp [hq] at hs
  | some i =>
    simp only [hq, Option.bind_some] at hs
    simp only [hq, Option.map_some, Option.some.injEq, Prod.mk.injEq] at hi
    obtain ⟨h1, h2⟩ := hi
    refine Op1.of_run hd hlt fun a w hr hh => ?_
    have hrun := run_make (P := C.P) w T E i z hT hq hs k k' n n (Int.natCast_nonneg n) (Int.le_refl _) (by rw [h2]; have := hn.1; rw [Nat.mul_comm] at this; omega) (by have := hn.2; unfold maxLen at this; omega)
    have hc : madeCells z.cells (n * i.size) = (zerosL zs n).toArray := by
      rw [h1, hz, ← Array.toList_inj]
      simp only [madeCells, zerosL, Array.toList_map, Array.toList_range, List.size_toArray]
      refine List.map_congr_left fun j _ => ?_
      have hpos : 0 < zs.length := by simpa using hp0
      have hlt : j % zs.length < zs.length := Nat.mod_lt _ hpos
      rw [getElem!_pos _ _ (by simpa using hlt)]
      simp [List.getD, List.getElem?_eq_getElem hlt]
    simp only [Int.toNat_natCast, hc] at hrun
    refine ⟨_, _, _, ?_, hh.new (below_alloc' w _) (holds_row_new (by simp [zerosL]) hn.2), h _⟩
    simp only [execOp, ho, hr.ev hx, hr.ev hy, Sem.run_bind, hrun, Result.andThen_ok, Sem.run_pure]
end Go.Sx
namespace Go.Sx
open Go Go.RowKit
/-! ### Some of what is held -/
theorem Ent.apart_comm {e f : Ent} (h : e.apart f) : f.apart e := fun b hb he => h b he hb
def pickE (m : List Ent) : List Nat → Option (List Ent)
  | [] => some []
  | i :: t => match m[i]?, pickE m t with
    | some e, some es => some (e :: es)
    | _, _ => none
def freshB : List Nat → Bool
  | [] => true
  | i :: t => (!t.contains i) && freshB t
theorem pickE_mem {m : List Ent} : ∀ {is es}, pickE m is = some es → ∀ e ∈ es, ∃ i ∈ is, m[i]? = some e
  | [], es, h => by simp only [pickE, Option.some.injEq] at h; subst h; simp
  | i :: t, es, h => by
    simp only [pickE] at h
    cases h1 : m[i]? with
    | none => simp [h1] at h
    | some e =>
      cases h2 : pickE m t with
      | none => simp [h1, h2] at h
      | some es' =>
        simp only [h1, h2, Option.some.injEq] at h
        subst h
        intro e' he'
        rcases List.mem_cons.1 he' with rfl | he'
        · exact ⟨i, by simp, h1⟩
        · obtain ⟨j, hj, hje⟩ := pickE_mem h2 e' he'
          exact ⟨j, by simp [hj], hje⟩
theorem Holds.pick {base w0 m w} (h : Holds base w0 m w) : ∀ {is es}, pickE m is = some es → freshB is = true → Holds base w0 es w := by
  intro is es he hf
  refine ⟨h.below, h.le, fun e hm => ?_, ?_, h.others⟩
  · obtain ⟨i, _, hi⟩ := pickE_mem he e hm
    exact h.all e (List.mem_of_getElem? hi)
  · induction is generalizing es with
    | nil => simp only [pickE, Option.some.injEq] at he; subst he; simp
    | cons i t ih =>
      simp only [pickE] at he
      cases h1 : m[i]? with
      | none => simp [h1] at he
      | some e =>
        cases h2 : pickE m t with
        | none => simp [h1, h2] at he
        | some es' =>
          simp only [h1, h2, Option.some.injEq] at he
          subst he
          simp only [freshB, Bool.and_eq_true, Bool.not_eq_true', List.contains_eq_mem, decide_eq_false_iff_not] at hf
          refine List.pairwise_cons.2 ⟨fun f hf' => ?_, ih h2 hf.2⟩
          obtain ⟨j, hj, hje⟩ := pickE_mem h2 f hf'
          have hne : i ≠ j := fun e => by subst e; exact hf.1 hj
          obtain ⟨hi', hie⟩ := List.getElem?_eq_some_iff.1 h1
          obtain ⟨hj', hjf⟩ := List.getElem?_eq_some_iff.1 hje
          rcases Nat.lt_or_gt_of_ne hne with hlt | hgt
          · have := List.pairwise_iff_getElem.1 h.apart i j hi' hj' hlt
            rwa [hie, hjf] at this
          · have := List.pairwise_iff_getElem.1 h.apart j i hj' hi' hgt
            rw [hie, hjf] at this
            exact Ent.apart_comm this
def pickT (m : List Ent) (t : Nat) (is : List Nat) : Option (List Ent) := (pickE m is).map (· ++ m.drop t)
def freshT (t : Nat) (is : List Nat) : Bool := freshB is && is.all (fun i => Nat.blt i t)
theorem Holds.pickT {base w0 m w} (h : Holds base w0 m w) {t is es} (he : Sx.pickT m t is = some es) (hf : freshT t is = true) : Holds base w0 es w := by
  simp only [freshT, Bool.and_eq_true, List.all_eq_true] at hf
  simp only [Sx.pickT, Option.map_eq_some_iff] at he
  obtain ⟨es', h1, rfl⟩ := he
  have hp := h.pick h1 hf.1
  refine ⟨h.below, h.le, fun e hm => ?_, List.pairwise_append.2 ⟨hp.apart, h.apart.sublist (List.drop_sublist _ _), fun e he f hf' => ?_⟩, h.others⟩
  · rcases List.mem_append.1 hm with h2 | h2
    · exact hp.all e h2
    · exact h.all e (List.mem_of_mem_drop h2)
  · obtain ⟨i, hi, hie⟩ := pickE_mem h1 e he
    obtain ⟨j, hj, hjf⟩ := List.getElem_of_mem hf'
    have hit : i < t := by simpa using hf.2 i hi
    rw [List.getElem_drop] at hjf
    obtain ⟨hi', hie'⟩ := List.getElem?_eq_some_iff.1 hie
    have := List.pairwise_iff_getElem.1 h.apart i (t + j) hi' (by simp at hj; omega) (by omega)
    rwa [hie', hjf] at this
end Go.Sx
namespace Go.Sx
open Go Go.RowKit
variable {C : Cx} {env env' : Env} {m m' : List Ent} {Q Q' : Post} {l rest : List Oper} {o : Oper} {K : Env → List Ent → Prop}
/-! append -/
theorem op_append {d : Nat} {i : Nat} {s x T E A n c sz xs B k cb news bytes} (ho : o.op = .call { callee := .builtin .append, args := #[s, x], argTypes := #[T, T] })
    (hs : ev env s = some (.slice A n c)) (hx : ev env x = some (.slice B k cb)) (hi : m[i]? = some (.row (.slice A n c) E sz n xs)) (hr : Reads C m B news) (hl : news.length = k * sz) (hB : B = none → k = 0 ∧ cb = 0)
    (hone : news.all (·.oneCell') = true) (hT : C.P.underlying T = some (.slice E)) (hz : (C.P.info? E).map (fun i => (i.size, i.bytes, i.zero.map (·.cells.size))) = some (sz, bytes, some sz)) (hp0 : Nat.blt 0 sz = true)
    (hb : (n + k) * bytes ≤ 140737488355328 ∧ n + k ≤ maxLen) (hd : o.dst = some d) (hlt : Nat.blt d C.n = true)
    (h : ∀ A' c', K (((d, (.slice A' (n + k) c')) :: env)) (m.set i (.row (.slice A' (n + k) c') E sz (n + k) (xs ++ news)))) : Op1 C o env m K := by
  have hpos : 0 < sz := by simpa using hp0
  refine Op1.of_run hd hlt fun a w hrep hh => ?_
  cases hq : C.P.info? E with
  | none => simp [hq] at hz
  | some inf =>
    simp only [hq, Option.map_some, Option.some.injEq, Prod.mk.injEq] at hz
    obtain ⟨h1, h2, h3⟩ := hz
    cases hzz : inf.zero with
    | none => simp [hzz] at h3
    | some zv =>
      simp only [hzz, Option.map_some, Option.some.injEq] at h3
      have hown := hh.all _ (List.mem_of_getElem? hi)
      obtain ⟨hlt, hg'⟩ := List.getElem?_eq_some_iff.1 hi
      have hm : m = m.take i ++ .row (.slice A n c) E sz n xs :: m.drop (i + 1) := by rw [← hg', List.getElem_cons_drop, List.take_append_drop]
      have hset : ∀ e, m.set i e = m.take i ++ e :: m.drop (i + 1) := fun e => by rw [List.set_eq_take_append_cons_drop, if_pos hlt]
      cases B with
      | none =>
        obtain ⟨rfl, rfl⟩ := hB rfl
        have hn : news = [] := List.eq_nil_of_length_eq_zero (by simpa using hl)
        subst hn
        have hrun := run_append_owned_none (P := C.P) (w := w) C.base T o.type E inf sz hT hq (.slice A n c) n xs hown
        refine ⟨.slice A n c, w, m, ?_, hh, ?_⟩
        · simp [execOp, ho, resolve, invoke, builtin, hrep.ev hs, hrep.ev hx, hrun]
        · have := h A c
          rw [hset] at this
          simp only [Nat.add_zero, List.append_nil] at this
          rwa [← hm] at this
      | some ad =>
        have hnews : ∀ j u, news[j]? = some u → w.cell? (ad.add j) = some u := fun j u hj => by
          obtain ⟨ad', e1, hc⟩ := hr w hh j u hj
          obtain rfl := Option.some.inj e1
          exact hc
        obtain ⟨v', w', hrun, hown', hgr, _⟩ := run_append_own (P := C.P) w C.base T o.type E inf zv sz bytes hT hq hzz h1 h2 h3 hpos (.slice A n c) n xs hown ad k cb news hl hnews (fun u hu => List.all_eq_true.1 hone u hu) hb.2 hb.1 hh.wle
        have hv' : ∃ A' c', v' = .slice A' (n + k) c' := by
          rcases hown'.2 with ⟨rfl, hn0⟩ | ⟨g, cap, cur, rfl, _⟩
          · exact ⟨none, 0, by rw [hn0]⟩
          · exact ⟨_, cap, rfl⟩
        obtain ⟨A', c', rfl⟩ := hv'
        refine ⟨_, w', m.set i (.row (.slice A' (n + k) c') E sz (n + k) (xs ++ news)), ?_, ?_, h A' c'⟩
        · simp [execOp, ho, resolve, invoke, builtin, hrep.ev hs, hrep.ev hx, hrun]
        · rw [hset]
          rw [hm] at hh
          refine hh.turn hgr hown' fun b hb' => ?_
          simp only [Ent.has] at hb' ⊢
          rcases hown'.2 with ⟨hv, hn0⟩ | ⟨g, cap, cur, hv, hgb, hgg, _⟩
          · simp at hv; obtain ⟨rfl, _⟩ := hv; simp [Value.ownBlock] at hb'
          · simp only [Value.slice.injEq] at hv
            obtain ⟨rfl, _⟩ := hv
            simp only [Value.ownBlock, Option.some.injEq] at hb' ⊢
            subst hb'
            rcases hown.2 with ⟨hv0, hn0⟩ | ⟨g0, cap0, cur0, hv0, hb0, hg0, hnc0, hcm0, hcs0, ht0⟩
            · right
              simp only [Value.slice.injEq] at hv0
              obtain ⟨rfl, rfl, rfl⟩ := hv0
              have hx0 : xs = [] := List.eq_nil_of_length_eq_zero (by simpa using hown.1)
              subst hx0
              obtain ⟨v2, w2, hrun2, hown2, _, _⟩ := run_append_own (P := C.P) w w.heap.size T o.type E inf zv sz bytes hT hq hzz h1 h2 h3 hpos (.slice none 0 0) 0 [] (World.ownsRow_nil w _ E sz) ad k cb news hl hnews (fun u hu => List.all_eq_true.1 hone u hu) hb.2 hb.1 (Nat.le_refl _)
              rw [hrun] at hrun2
              simp only [Result.ok.injEq] at hrun2
              obtain ⟨rfl, rfl⟩ := hrun2
              exact (World.ownsRow.lt hown2 g (by simp [Value.ownBlock])).1
            · simp only [Value.slice.injEq] at hv0
              obtain ⟨rfl, -, rfl⟩ := hv0
              simp only [Value.ownBlock, Option.some.injEq]
              by_cases hroom : n + k ≤ c
              · left
                have hroom2 := run_append_room (P := C.P) w T o.type E inf hT hq g0 n c cur0 hg0 ad k cb news (by rw [h1]; exact hl) hnews (fun u hu => List.all_eq_true.1 hone u hu) hroom (by rw [h1, hl, hcs0, ← Nat.add_mul]; exact Nat.mul_le_mul_right _ hroom)
                rw [hrun] at hroom2
                simp only [Result.ok.injEq, Value.slice.injEq, Option.some.injEq, Addr.mk.injEq] at hroom2
                exact hroom2.1.1.1.symm
              · right
                have hgrow := run_append_grow (P := C.P) w T o.type E inf zv hT hq hzz ⟨g0, 0, none⟩ n c xs (by rw [h1]; exact hown.1) (World.ownsRow.cells hown (g := g0) rfl) ad k cb news (by rw [h1]; exact hl) hnews (by omega) (by have := hb.2; unfold maxLen at this; omega) (growslice_fits (by have := hb.2; unfold maxLen at this; omega) (by rw [h2]; exact hb.1))
                rw [hrun] at hgrow
                simp only [Result.ok.injEq, Value.slice.injEq, Option.some.injEq, Addr.mk.injEq] at hgrow
                have := hgrow.1.1.1
                omega
/-! ### Calls -/
def Enters (P : Program) (f : FuncId) : Prop := ∀ args w, (callFunc f args).run P w = .ok (.enter f args) w
theorem Enters.of {P : Program} {f fn} (hf : P.funcs[f]? = some fn) (hb : (fn.body.isNone || fn.name == "runtime.NumGoroutine") = false) : Enters P f := by
  intro args w
  simp only [Bool.or_eq_false_iff] at hb
  have h1 : ¬ fn.name = "runtime.NumGoroutine" := fun e => by simp [e] at hb
  have h2 : ¬ fn.body = none := fun e => by simp [e] at hb
  simp [callFunc, program, Sem.run_bind, Sem.run, hf, h1, h2]
/-- What a function does that turns nothing of what was there: for each start that is told by Pre, some x that is ok: the result, and what memory it has made. -/
def Ret (P : Program) (f : FuncId) (vs : List Value) (Pre : World → Prop) {X : Type} (val : X → Value) (new : X → List Ent) (ok : X → Prop) : Prop :=
  Enters P f ∧ ∀ w, Pre w → Calls P f vs.toArray w fun e w' => ∃ x, ok x ∧ e = .returned (val x) ∧ Below w.heap.size w w' ∧ (∀ e ∈ new x, Ent.holds w.heap.size w' e) ∧ (new x).Pairwise Ent.apart
theorem op_ret {d : Nat} {fo f fst cap args at_ vs X} {Pre : World → Prop} {val : X → Value} {new : X → List Ent} {ok : X → Prop} (ho : o.op = .call { callee := .value fo, args := args, argTypes := at_ }) (hfo : ev env fo = some (.func (.func f) (List.toArray fst) (List.toArray cap)))
    (hargs : evs env args.toList = some vs) (hc : Ret C.P f (fst ++ vs ++ cap) Pre val new ok) (hp : ∀ w, Holds C.base C.w0 m w → Pre w) (hd : o.dst = some d) (hlt : Nat.blt d C.n = true)
    (h : ∀ x, ok x → K (((d, (val x)) :: env)) (new x ++ m)) : Op1 C o env m K := by
  intro a w hr hh
  have hrun : (execOp a.eval o).run C.P w = .ok (.enter f (fst ++ vs ++ cap).toArray) w := by
    have e1 : args.map a.eval = vs.toArray := by rw [← hr.evs hargs]; simp [← Array.toList_inj]
    simp [execOp, ho, resolve, hr.ev hfo, Deferred.ofValue, invoke, e1, hc.1 _ w]
  unfold Oper.wp
  rw [hrun, Oper.upon_enter]
  refine (hc.2 w (hp w hh)).mono ?_
  rintro e w' ⟨x, hx, rfl, hb, hn, ha⟩
  exact ⟨_, _, hr.put1 hd hlt, hh.add hb hn ha, h x hx⟩
end Go.Sx
namespace Go.Sx
open Go Go.RowKit
variable {C : Cx} {env env' : Env} {m m' : List Ent} {Q Q' : Post} {l rest : List Oper} {o : Oper} {K : Env → List Ent → Prop}
/-! ### What a function hands back -/
def LoadsAs (C : Cx) (m : List Ent) (T : TypeId) (p : Option Addr) (v : Value) : Prop := ∀ w, Holds C.base C.w0 m w → ∃ ad, p = some ad ∧ (loadVar T ad).run C.P w = .ok v w
theorem LoadsAs.one {T p v d} (hT : C.P.underlying T = some d) (hd : aggD d = false) (hc : CellO C m p v) : LoadsAs C m T p v := fun w hw => by
  obtain ⟨ad, rfl, hc'⟩ := hc w hw
  exact ⟨ad, rfl, run_load1 hT hd hc'⟩
theorem LoadsAs.many {T p cs d} (hT : C.P.underlying T = some d) (hd : aggD d = true) (hs : (C.P.info? T).map (·.size) = some (List.length cs)) (hc : SegO C m p cs) : LoadsAs C m T p (.agg cs.toArray) := fun w hw => by
  obtain ⟨ad, rfl, hc'⟩ := hc w hw
  exact ⟨ad, rfl, run_loadN hT hd hs hc'⟩
def ResL (C : Cx) (env : Env) (m : List Ent) : List ResultVar → List Value → Prop
  | [], [] => True
  | .tmp t :: r, v :: vs => look env t = some v ∧ ResL C env m r vs
  | .cell t T :: r, v :: vs => (∃ p, look env t = some (.pointer p) ∧ LoadsAs C m T p v) ∧ ResL C env m r vs
  | _, _ => False
def tupleOf : List Value → Value
  | [v] => v
  | vs => .tuple vs.toArray
def resF (tmps : Array Value) : ResultVar → Sem Value
  | .tmp t => pure (tmps.getD t undef)
  | .cell a t => do loadVar t (← asAddr (tmps.getD a undef))
theorem run_results {ds : List Deferred} {fn : Func} {rs : List ResultVar} {vs : List Value} (hfn : fn.results = rs.toArray) (h : ResL C env m rs vs) {a w} (hr : Rep C.n ds env a) (hh : Holds C.base C.w0 m w) : (results fn a.tmps).run C.P w = .ok (tupleOf vs) w := by
  have key : ∀ (rs : List ResultVar) (vs : List Value), ResL C env m rs vs → (rs.mapM (resF a.tmps)).run C.P w = .ok vs w := by
    intro rs
    induction rs with
    | nil => intro vs h; cases vs with
      | nil => simp
      | cons => exact h.elim
    | cons r t ih =>
      intro vs h
      cases vs with
      | nil => cases r <;> exact h.elim
      | cons v vs =>
        cases r with
        | tmp t =>
          obtain ⟨h1, h2⟩ := h
          have e1 := (hr.at_ _ _ h1).2
          rw [List.mapM_cons]
          simp only [resF, Sem.run_bind, Sem.run_pure, Result.andThen_ok, ih vs h2, e1]
        | cell t T =>
          obtain ⟨⟨p, h0, h1⟩, h2⟩ := h
          have e1 := (hr.at_ _ _ h0).2
          obtain ⟨ad, rfl, h1'⟩ := h1 w hh
          rw [List.mapM_cons]
          simp only [resF, Sem.run_bind, e1, asAddr, Sem.run_pure, Result.andThen_ok, h1', ih vs h2]
  have hk := key rs vs h
  have e : results fn a.tmps = (do let us ← fn.results.mapM (resF a.tmps); pure (if h : us.size = 1 then us[0] else .tuple us)) := by
    unfold results
    congr 1
  rw [e, hfn, List.mapM_toArray, map_eq_pure_bind, bind_assoc]
  simp only [Sem.run_bind, hk, Result.andThen_ok, Sem.run_pure]
  cases vs with
  | nil => simp [tupleOf]
  | cons v t => cases t <;> simp [tupleOf]
def argsAt : Nat → List Value → Env
  | _, [] => []
  | k, v :: t => (k, v) :: argsAt (k + 1) t
theorem rep_start {n : Nat} {vs : List Value} (hn : vs.length ≤ n) : Rep n [] (argsAt 0 vs) { tmps := vs.toArray ++ Array.replicate (n - vs.toArray.size) undef, defers := [] } := by
  refine ⟨rfl, by simp; omega, ?_⟩
  have key : ∀ (vs : List Value) (k i : Nat) (v : Value), look (argsAt k vs) i = some v → k ≤ i ∧ vs[i - k]? = some v := by
    intro vs
    induction vs with
    | nil => intro k i v h; simp [argsAt, look] at h
    | cons x t ih =>
      intro k i v h
      simp only [argsAt, look] at h
      cases hb : Nat.beq k i with
      | true =>
        rw [hb] at h
        have e := Nat.eq_of_beq_eq_true hb
        subst e
        exact ⟨Nat.le_refl _, by simpa using h⟩
      | false =>
        rw [hb] at h
        obtain ⟨h1, h2⟩ := ih (k + 1) i v h
        refine ⟨by omega, ?_⟩
        rw [show i - k = (i - (k + 1)) + 1 by omega]
        exact h2
  intro i v h
  obtain ⟨_, h2⟩ := key vs 0 i v h
  rw [Nat.sub_zero] at h2
  obtain ⟨hlt, hv⟩ := List.getElem?_eq_some_iff.1 h2
  refine ⟨by omega, ?_⟩
  rw [Array.getD_eq_getD_getElem?, Array.getElem?_append_left (by simpa using hlt)]
  simp [h2]
def isEnd : Exit → Bool
  | .ret => true
  | .normal => true
  | _ => false
def RetQ (C : Cx) (rs : List ResultVar) {X : Type} (val : X → Value) (new : X → List Ent) (ok : X → Prop) : Post := fun e env m =>
  isEnd e = true ∧ ∃ x, ok x ∧ (∃ vs, ResL C env m rs vs ∧ tupleOf vs = val x) ∧ (∃ is, pickE m is = some (new x) ∧ freshB is = true)
def isMapO : Obj → Bool
  | .map _ _ => true
  | _ => false
theorem Ent.holds.put {base w e} (h : Ent.holds base w e) {L : Nat} {o o' : Obj} (hL : w.heap[L]? = some o) (ho : o.isCells = false) (hm : isMapO o = false) : Ent.holds base (w.putObj L o') e :=
  h.grown (grownBy_putObj' w L o') (fun b hb he => by
    simp only [Option.some.injEq] at he; subst he
    by_cases hc : e.cellLike = true
    · have := h.cells hc _ o hb hL
      rw [ho] at this; cases this
    · cases e with
      | blk b cs T => exact hc rfl
      | row v E sz n xs => exact hc rfl
      | mset b ks =>
        obtain ⟨h1, es, clock, h2, h3⟩ := h
        simp only [Ent.has, Option.some.injEq] at hb; subst hb
        rw [hL] at h2; cases h2; cases hm
      | pile rs =>
        obtain ⟨r, hr, hv⟩ := hb
        rcases (h.1 r hr).2 with ⟨hn, _⟩ | ⟨g, cap, cur, hg, _, hg2, _⟩
        · rw [hn] at hv; simp [Value.ownBlock] at hv
        · rw [hg] at hv; simp only [Value.ownBlock, Option.some.injEq] at hv; subst hv
          rw [hL] at hg2; cases hg2; cases ho)
theorem Holds.put {base w0 m w} (h : Holds base w0 m w) {L : Nat} {o o' : Obj} (hL : w.heap[L]? = some o) (ho : o.isCells = false) (hl : w0.heap.size ≤ L) (hm : isMapO o = false := by rfl) : Holds base w0 m (w.putObj L o') :=
  ⟨h.below.grown (grownBy_putObj' w L o') (by have := h.below.size; have := h.le; omega) (fun k e => by cases e; have := h.le; omega), h.le, fun e he => (h.all e he).put hL ho hm, h.apart,
   ⟨by simp; exact h.others.size, fun k o2 hk h2 => by
    have hk0 : k < w0.heap.size := (Array.getElem?_eq_some_iff.1 hk).1
    exact (World.putObj_heap_other (by omega)).trans (h.others.same k o2 hk h2)⟩⟩
/-- At a function's end: what has been put off is done with. -/
theorem bodyOf {C : Cx} {e ds env a m w' fn} {R : Ending → World → Prop} (hd : markOk C e ds w') (hr : Rep C.n ds env a) (hh : Holds C.base C.w0 m w') (hend : C.ds = [] ∧ (e = .ret ∨ e = .normal))
    (h : ∀ w'', Holds C.base C.w0 m w'' → ∃ v, (results fn a.tmps).run C.P w'' = .ok v w'' ∧ R (.returned v) w'') : bodyPostM (fc none) 0 C.P fn R e a w' := by
  have key : LeavesInM (fc none) 0 C.P fn a.tmps R a.defers .returning w' := by
    rw [hr.def0]
    rcases hd with hd | ⟨_, _, D, hd, hD, hw⟩
    · rw [hd, hend.1]
      exact h w' hh
    · rw [hd]
      exact ⟨(fun e => nomatch e), .inl ⟨D, _, rfl, run_takeDeferred hw, h _ (hh.put hw rfl hD)⟩⟩
  rcases hend.2 with rfl | rfl <;> exact key
theorem Ret.of {P : Program} {f fn c n rs} {vs : List Value} {X : Type} {Pre : World → Prop} {val : X → Value} {new : X → List Ent} {ok : X → Prop} (hE : Enters P f) (hf : P.funcs[f]? = some fn) (hb : fn.body = some c) (hn : fn.ntmps = n) (hrs : fn.results = List.toArray rs) (hv : Nat.ble vs.length n = true)
    (h : ∀ w, Pre w → Ex ⟨P, n, w.heap.size, w, none, []⟩ c (argsAt 0 vs) [] (RetQ ⟨P, n, w.heap.size, w, none, []⟩ rs val new ok)) : Ret P f vs Pre val new ok := by
  refine ⟨hE, fun w hw => fcCalls (rd := none) (n := 0) (callsIn_of_wp_marks hf hb trivial ?_)⟩
  subst hn
  refine wpIn_mono (h w hw _ w (rep_start (Nat.le_of_ble_eq_true hv)) ⟨Below.refl _ _, Nat.le_refl _, by simp, by simp, KeepsOthers.refl _⟩) ?_
  rintro e a w' ⟨ho, env, m, ds, hr, hh, ⟨hend, x, hx, ⟨us, hres, hval⟩, is, hp, hf⟩, hd⟩
  refine bodyOf (e := e) hd hr hh (by cases e <;> simp_all [isEnd]) (fun w'' hh => ?_)
  have hrun := run_results (fn := fn) hrs hres hr hh
  have hq := hh.pick hp hf
  exact ⟨_, hrun, x, hx, by rw [hval], hh.below, fun e he => hq.all e he, hq.apart⟩
end Go.Sx
namespace Go.Sx
open Go Go.RowKit
variable {C : Cx} {env env' : Env} {m m' : List Ent} {Q Q' : Post} {l rest : List Oper} {o : Oper} {K : Env → List Ent → Prop}
/-! ### Functions that turn what they are handed -/
theorem Holds.perm {base w0 m m' w} (h : Holds base w0 m w) (hp : m.Perm m') : Holds base w0 m' w :=
  ⟨h.below, h.le, fun e he => h.all e (hp.mem_iff.2 he), (hp.pairwise_iff fun h => Ent.apart_comm h).1 h.apart, h.others⟩
/-- A function to which 'ins' is handed, the caller's own: behind it stands 'outs x' in its place; whatever else there is (F) stands. Fr: what it reads of the rest. -/
def Mut (P : Program) (f : FuncId) (vs : List Value) (ins : List Ent) (Fr : Nat → World → List Ent → Prop) {X : Type} (val : X → Value) (outs : X → List Ent) (ok : X → Prop) : Prop :=
  Enters P f ∧ ∀ base w0 F w, Fr base w0 F → Holds base w0 (ins ++ F) w → Calls P f vs.toArray w fun e w' => ∃ x, ok x ∧ e = .returned (val x) ∧ Holds base w0 (outs x ++ F) w'
theorem op_mut {d : Nat} {fo f fst cap args at_ vs X} {ins F : List Ent} {Fr : Nat → World → List Ent → Prop} {val : X → Value} {outs : X → List Ent} {ok : X → Prop} (ho : o.op = .call { callee := .value fo, args := args, argTypes := at_ }) (hfo : ev env fo = some (.func (.func f) (List.toArray fst) (List.toArray cap)))
    (hargs : evs env args.toList = some vs) (hc : Mut C.P f (fst ++ vs ++ cap) ins Fr val outs ok) (hm : m.Perm (ins ++ F)) (hp : Fr C.base C.w0 F) (hd : o.dst = some d) (hlt : Nat.blt d C.n = true)
    (h : ∀ x, ok x → K (((d, (val x)) :: env)) (outs x ++ F)) : Op1 C o env m K := by
  intro a w hr hh
  have hrun : (execOp a.eval o).run C.P w = .ok (.enter f (fst ++ vs ++ cap).toArray) w := by
    have e1 : args.map a.eval = vs.toArray := by rw [← hr.evs hargs]; simp [← Array.toList_inj]
    simp [execOp, ho, resolve, hr.ev hfo, Deferred.ofValue, invoke, e1, hc.1 _ w]
  unfold Oper.wp
  rw [hrun, Oper.upon_enter]
  refine (hc.2 _ _ F w hp (hh.perm hm)).mono ?_
  rintro e w' ⟨x, hx, rfl, hn⟩
  exact ⟨_, _, hr.put1 hd hlt, hn, h x hx⟩
def MutQ (C : Cx) (rs : List ResultVar) (F : List Ent) {X : Type} (val : X → Value) (outs : X → List Ent) (ok : X → Prop) : Post := fun e env m =>
  isEnd e = true ∧ ∃ x, ok x ∧ (∃ vs, ResL C env m rs vs ∧ tupleOf vs = val x) ∧ (∃ t is, pickT m t is = some (outs x ++ F) ∧ freshT t is = true)
theorem Mut.of {P : Program} {f fn c n rs} {vs : List Value} {ins : List Ent} {X : Type} {Fr : Nat → World → List Ent → Prop} {val : X → Value} {outs : X → List Ent} {ok : X → Prop} (hE : Enters P f) (hf : P.funcs[f]? = some fn) (hb : fn.body = some c) (hn : fn.ntmps = n) (hrs : fn.results = List.toArray rs) (hv : Nat.ble vs.length n = true)
    (h : ∀ base w0 F, Fr base w0 F → Ex ⟨P, n, base, w0, none, []⟩ c (argsAt 0 vs) (ins ++ F) (MutQ ⟨P, n, base, w0, none, []⟩ rs F val outs ok)) : Mut P f vs ins Fr val outs ok := by
  refine ⟨hE, fun base w0 F w hfr hw => fcCalls (rd := none) (n := 0) (callsIn_of_wp_marks hf hb trivial ?_)⟩
  subst hn
  refine wpIn_mono (h base w0 F hfr _ w (rep_start (Nat.le_of_ble_eq_true hv)) hw) ?_
  rintro e a w' ⟨ho, env, m, ds, hr, hh, ⟨hend, x, hx, ⟨us, hres, hval⟩, t, is, hp, hf⟩, hd⟩
  refine bodyOf (e := e) hd hr hh (by cases e <;> simp_all [isEnd]) (fun w'' hh => ?_)
  have hrun := run_results (fn := fn) hrs hres hr hh
  exact ⟨_, hrun, x, hx, by rw [hval], hh.pickT hp hf⟩
/-! ### Facts out of what is told -/
theorem ExL.know {p : Prop} (h : ∀ w, Holds C.base C.w0 m w → p) (k : p → ExL C l rest env m K) : ExL C l rest env m K := fun a w hr hh => k (h w hh) a w hr hh
theorem Ex.know {c : Code} {p : Prop} (h : ∀ w, Holds C.base C.w0 m w → p) (k : p → Ex C c env m Q) : Ex C c env m Q := fun a w hr hh => k (h w hh) a w hr hh
theorem ExD.know {S fuel done} {p : Prop} (h : ∀ w, Holds C.base C.w0 m w → p) (k : p → ExD C l S fuel done env m K) : ExD C l S fuel done env m K := fun a w hr hh => k (h w hh) a w hr hh
theorem row_some {i : Nat} {A n c E sz} {xs : List Value} (hi : m[i]? = some (.row (.slice A n c) E sz n xs)) : ∀ w, Holds C.base C.w0 m w → xs.length = n * sz ∧ n ≤ c ∧ c ≤ maxLen ∧ (0 < n → A.isSome = true) := fun w hw => by
  have h := hw.all _ (List.mem_of_getElem? hi)
  rcases h.2 with ⟨hv, rfl⟩ | ⟨g, cap, cur, hv, _, _, h1, h2, _⟩
  · simp only [Value.slice.injEq] at hv
    exact ⟨h.1, by omega, by rw [hv.2.2]; unfold maxLen; omega, fun h => by omega⟩
  · simp only [Value.slice.injEq] at hv
    obtain ⟨rfl, -, rfl⟩ := hv
    exact ⟨h.1, h1, h2, fun _ => rfl⟩
/-- A slice that is nil is a row of one's own. -/
theorem Ex.nilRow {c : Code} (E sz : Nat) (h : Ex C c env (.row (.slice none 0 0) E sz 0 [] :: m) Q) : Ex C c env m Q := fun a w hr hh =>
  h a w hr (hh.new (Below.refl _ _) ⟨by simp, .inl ⟨rfl, rfl⟩⟩)
theorem ExL.nilRow (E sz : Nat) (h : ExL C l rest env (.row (.slice none 0 0) E sz 0 [] :: m) K) : ExL C l rest env m K := fun a w hr hh =>
  h a w hr (hh.new (Below.refl _ _) ⟨by simp, .inl ⟨rfl, rfl⟩⟩)
theorem RdB.isSome {base w A cs} (h : RdB base w A cs) (hn : 0 < cs.length) : A.isSome = true := by
  cases cs with
  | nil => simp at hn
  | cons x t => obtain ⟨ad, rfl, _⟩ := h 0 x rfl; rfl
theorem Rd.isSome {w A cs} (h : Rd w A cs) (hn : 0 < cs.length) : A.isSome = true := h.base.isSome hn
end Go.Sx
namespace Go.Sx
open Go Go.RowKit
variable {C : Cx} {env env' : Env} {m m' : List Ent} {Q Q' : Post} {l rest : List Oper} {o : Oper} {K : Env → List Ent → Prop}
/-! ### Steps -/
theorem Ex.regSeq {id : Nat} {l : List Oper} {y : Code} (h : ExL C l l env m (fun env m => Ex C y env m Q)) (hrd : regOk C.rd l = true := by rfl) : Ex C (.seq (.region id l.toArray false) y) env m Q :=
  Ex.seq (Ex.region h hrd)
theorem Ex.drawSeq {id : Nat} {l : List Oper} {y : Code} (S : List Ent) (hm : C.P.follows .mixedOrders = true) (h : ExD C l S l.length [] env m (fun env m => Ex C y env m Q)) (hrd : regOk C.rd l = true := by rfl) : Ex C (.seq (.region id l.toArray true) y) env m Q :=
  Ex.seq (Ex.draw S hm h hrd)
theorem Ex.drawSeqM {id : Nat} {l : List Oper} {y : Code} (hm : C.P.follows .mixedOrders = true) (h : ExD C l m l.length [] env m (fun env m => Ex C y env m Q)) (hrd : regOk C.rd l = true := by rfl) : Ex C (.seq (.region id l.toArray true) y) env m Q := Ex.drawSeq m hm h hrd
theorem Ex.drawM {id : Nat} {l : List Oper} (hm : C.P.follows .mixedOrders = true) (h : ExD C l m l.length [] env m (fun env m => Q .normal env m)) (hrd : regOk C.rd l = true := by rfl) : Ex C (.region id l.toArray true) env m Q := Ex.draw m hm h hrd
def lenVal (P : Program) (c : Call) (env : Env) : Option Value :=
  match c.callee, c.args.toList, c.argTypes.toList with
  | .builtin .len, [x], [T] => match ev env x with
    | some (.slice _ n _) => match P.underlying T with
      | some (.slice _) => some (.int .i64 n)
      | _ => none
    | _ => none
  | _, _, _ => none
/-- Operations whose value is plain from the slots. -/
def pureVal (P : Program) (o : Oper) (env : Env) : Option Value :=
  match o.op with
  | .move x => ev env x
  | .assign x => ev env x
  | .pick c x y => match ev env c with
    | some (.bool true) => ev env x
    | some (.bool false) => ev env y
    | _ => none
  | .extract x k => match ev env x with
    | some (.tuple vs) => vs.toList[k]?
    | _ => none
  | .unOp .not _ x => match ev env x with
    | some (.bool b) => some (.bool (!b))
    | _ => none
  | .nilCheck x => match ev env x with
    | some (.pointer (some p)) => some (.pointer (some p))
    | _ => none
  | .fieldAddr S x k => match ev env x with
    | some (.pointer (some ⟨b, q, none⟩)) => match P.underlying S with
      | some (.struct fs) => match fs.toList[k]? with
        | some f => match P.info? f.type with
          | some i => bif Nat.beq i.size 0 then none else some (.pointer (some ⟨b, q + f.offset, none⟩))
          | none => none
        | none => none
      | _ => none
    | _ => none
  | .call c => lenVal P c env
  | _ => none
theorem pureVal_ok {v} (h : pureVal C.P o env = some v) : Free C o env m v := by
  unfold pureVal at h
  split at h
  · exact fr_move ‹_› h
  · exact fr_assign ‹_› h
  · split at h
    · exact fr_pick_t ‹_› ‹_› h
    · exact fr_pick_f ‹_› ‹_› h
    · cases h
  · split at h
    · exact fr_extract ‹_› ‹_› (by simpa using h)
    · cases h
  · split at h
    · cases h; exact fr_not ‹_› ‹_›
    · cases h
  · split at h
    · cases h; exact fr_nilCheck ‹_› ‹_›
    · cases h
  · rename_i S x k hop
    split at h
    · rename_i b q hx
      split at h
      · rename_i fs hfs
        split at h
        · rename_i f hf
          split at h
          · rename_i i hi
            cases hb : Nat.beq i.size 0 with
            | true => rw [hb] at h; cases h
            | false =>
              rw [hb] at h
              cases h
              exact fr_fieldAddr_b (f := f) hop hx hfs (by simpa using hf) (by rw [hi]; rfl) hb
          · cases h
        · cases h
      · cases h
    · cases h
  · rename_i c hc
    unfold lenVal at h
    obtain ⟨callee, args, argTypes⟩ := c
    dsimp only at h
    split at h
    · rename_i x T h2 h3
      split at h
      · rename_i A n c h4
        split at h
        · rename_i E h5
          cases h
          have e2 : args = #[x] := by rw [← Array.toList_inj]; exact h2
          have e3 : argTypes = #[T] := by rw [← Array.toList_inj]; exact h3
          subst e2 e3
          exact fr_len hc h4 h5
        · cases h
      · cases h
    · cases h
  · cases h
/-- The next k operations, plain ones all. -/
def pures (P : Program) (n : Nat) (l : List Oper) : Nat → List Oper → Env → Option (List Oper × Env)
  | 0, ops, env => some (ops, env)
  | _ + 1, [], _ => none
  | k + 1, o :: rest, env => match wantB l env o, o.dst with
    | some true, some d => bif Nat.blt d n then (match pureVal P o env with
      | some v => pures P n l k rest ((d, v) :: env)
      | none => none) else none
    | some false, some d => bif Nat.blt d n then pures P n l k rest ((d, undef) :: env) else none
    | _, _ => none
theorem ExL.pures : ∀ (k : Nat) {ops rest : List Oper} {env env' : Env}, Sx.pures C.P C.n l k ops env = some (rest, env') → ExL C l rest env' m K → ExL C l ops env m K
  | 0, ops, rest, env, env', he, h => by simp only [Sx.pures, Option.some.injEq, Prod.mk.injEq] at he; obtain ⟨rfl, rfl⟩ := he; exact h
  | k + 1, [], rest, env, env', he, h => by simp [Sx.pures] at he
  | k + 1, o :: ops, rest, env, env', he, h => by
    unfold Sx.pures at he
    split at he
    · rename_i d hw hd
      cases hb : Nat.blt d C.n with
      | true =>
        rw [hb] at he
        simp only [cond_true] at he
        split at he
        · exact ExL.free (pureVal_ok ‹_›) hw hd hb (ExL.pures k he h)
        · cases he
      | false => rw [hb] at he; cases he
    · rename_i d hw hd
      cases hb : Nat.blt d C.n with
      | true => rw [hb] at he; exact ExL.skip hw hd hb (ExL.pures k he h)
      | false => rw [hb] at he; cases he
    · cases he
section
variable {rs : List ResultVar} {X : Type} {val : X → Value} {new : X → List Ent} {ok : X → Prop} {e : Exit}
theorem ResL.nil : ResL C env m [] [] := trivial
theorem ResL.tmp {t v r vs} (h : look env t = some v) (h' : ResL C env m r vs) : ResL C env m (.tmp t :: r) (v :: vs) := ⟨h, h'⟩
theorem ResL.cell {t T p v r vs} (h : look env t = some (.pointer p)) (hl : LoadsAs C m T p v) (h' : ResL C env m r vs) : ResL C env m (.cell t T :: r) (v :: vs) := ⟨⟨p, h, hl⟩, h'⟩
theorem RetQ.mk (x : X) {vs : List Value} (he : isEnd e = true) (hr : ResL C env m rs vs) (hv : tupleOf vs = val x) (is : List Nat) (hp : pickE m is = some (new x)) (hf : freshB is = true) (hx : ok x) : RetQ C rs val new ok e env m := ⟨he, x, hx, ⟨vs, hr, hv⟩, is, hp, hf⟩
theorem MutQ.mk {F : List Ent} {outs : X → List Ent} (x : X) {vs : List Value} (he : isEnd e = true) (hr : ResL C env m rs vs) (hv : tupleOf vs = val x) (t : Nat) (is : List Nat) (hp : pickT m t is = some (outs x ++ F)) (hf : freshT t is = true) (hx : ok x) : MutQ C rs F val outs ok e env m := ⟨he, x, hx, ⟨vs, hr, hv⟩, t, is, hp, hf⟩
end
attribute [local irreducible] Ex ExL ExD Op1 Free RetQ MutQ Reads CellO SegO LoadsAs
end Go.Sx
namespace Go.Sx
open Go Go.RowKit
variable {C : Cx} {env env' : Env} {m m' : List Ent} {Q Q' : Post} {l rest : List Oper} {o : Oper} {K : Env → List Ent → Prop}
/-! ### Rows whose elements are told one by one -/
theorem flat_len {α : Type} {f : α → List Value} {sz : Nat} (hf : ∀ x, (f x).length = sz) (xs : List α) : (xs.flatMap f).length = xs.length * sz := by
  induction xs with
  | nil => simp
  | cons x t ih => rw [List.flatMap_cons, List.length_append, ih, hf, List.length_cons, Nat.add_mul, Nat.one_mul]; omega
theorem flat_get {α : Type} {f : α → List Value} {sz : Nat} (hf : ∀ x, (f x).length = sz) (d : α) : ∀ (xs : List α) (i k : Nat), i < xs.length → k < sz → (xs.flatMap f)[i * sz + k]? = (f (xs.getD i d))[k]?
  | [], i, k, h, _ => by simp at h
  | x :: t, 0, k, _, hk => by
    rw [List.flatMap_cons, Nat.zero_mul, Nat.zero_add, List.getElem?_append_left (by rw [hf]; exact hk)]
    rfl
  | x :: t, i + 1, k, h, hk => by
    rw [List.flatMap_cons, List.getElem?_append_right (by rw [hf, Nat.add_mul]; omega), hf, show (i + 1) * sz + k - sz = i * sz + k by rw [Nat.add_mul]; omega, flat_get hf d t i k (by simpa using h) hk]
    rfl
variable {α : Type} {f : α → List Value} {sz : Nat} {xs : List α} {A : Option Addr}
theorem Reads.some_ {w} (H : Reads C m A (xs.flatMap f)) (hf : ∀ x, (f x).length = sz) (hp : Nat.blt 0 sz = true) (hn : 0 < xs.length) (hw : Holds C.base C.w0 m w) : A.isSome = true := by
  unfold Reads at H
  have hp' : 0 < sz := by simpa using hp
  exact (H w hw).isSome (by rw [flat_len hf]; exact Nat.mul_pos hn hp')
theorem fr_indexAddrF {S x y E c k i} (H : Reads C m A (xs.flatMap f)) (hf : ∀ x, (f x).length = sz) (ho : o.op = .indexAddr S x y) (hx : ev env x = some (.slice A xs.length c)) (hy : ev env y = some (.int k i)) (hS : C.P.underlying S = some (.slice E)) (hs : (C.P.info? E).map (·.size) = some sz) (hp : Nat.blt 0 sz = true) (hi : 0 ≤ i ∧ i < xs.length) : Free C o env m (.pointer (offA A (i.toNat * sz))) := by
  have key := fun hA => fr_indexAddr (C := C) (m := m) (o := o) ho hx hy hS hs hA hi
  unfold Free at key ⊢
  exact fun a w hr hw => key (H.some_ hf hp (by omega) hw) a w hr hw
theorem fr_fieldAddrF {S x} {k i : Nat} {q : Nat} {fs : Array Field} {g : Field} {n} (H : Reads C m A (xs.flatMap f)) (hf : ∀ x, (f x).length = sz) (hp : Nat.blt 0 sz = true) (ho : o.op = .fieldAddr S x k) (hx : ev env x = some (.pointer (offA A q))) (hi : i < xs.length) (hS : C.P.underlying S = some (.struct fs)) (hg : fs[k]? = some g) (hs : (C.P.info? g.type).map (·.size) = some n) (hn : Nat.beq n 0 = false) : Free C o env m (.pointer (offA A (q + g.offset))) := by
  have key := fun hA => fr_fieldAddr_o (C := C) (m := m) (o := o) (f := g) ho hx hA hS hg hs hn
  unfold Free at key ⊢
  exact fun a w hr hw => key (H.some_ hf hp (by omega) hw) a w hr hw
theorem cellF {i : Int} {v} (H : Reads C m A (xs.flatMap f)) (hf : ∀ x, (f x).length = sz) (d : α) (k : Nat) (hk : Nat.blt k sz = true) (hi : 0 ≤ i ∧ i < xs.length) (hv : (f (xs.getD i.toNat d))[k]? = some v) : CellO C m (offA A (i.toNat * sz + k)) v :=
  CellO.of H ((flat_get hf d xs _ k (by omega) (by simpa using hk)).trans hv)
theorem segF {i : Int} (H : Reads C m A (xs.flatMap f)) (hf : ∀ x, (f x).length = sz) (hp : Nat.blt 0 sz = true) (d : α) (hi : 0 ≤ i ∧ i < xs.length) : SegO C m (offA A (i.toNat * sz)) (f (xs.getD i.toNat d)) :=
  SegO.of H (fun e => by have h1 := congrArg List.length e; rw [hf, List.length_nil] at h1; subst h1; cases hp) (fun j u hj => by
    have hlt : j < sz := by rw [← hf (xs.getD i.toNat d)]; exact (List.getElem?_eq_some_iff.1 hj).1
    exact (flat_get hf d xs _ j (by omega) hlt).trans hj)
/-! encodings -/
def eI (k : IntKind) (x : Int) : List Value := [.int k x]
theorem eI_len (k : IntKind) : ∀ x, (eI k x).length = 1 := fun _ => rfl
/-! ### Loops, as they are met: what is carried on (V), what stays (Kp) -/
theorem Agree.append {E F env : Env} (h1 : Agree E env) (h2 : Agree F env) : Agree (E ++ F) env := by
  induction E with
  | nil => exact h2
  | cons p t ih => exact ⟨h1.1, ih h1.2⟩
/-- What a round hands on. -/
def Hand {X : Type} (V : X → Env) (Kp : Env) (M : X → List Ent) (Mk : List Ent) (I : X → Prop) (μ : X → Nat) (x : X) (env' : Env) (m' : List Ent) : Prop :=
  ∃ x' t is, I x' ∧ μ x' < μ x ∧ Agree (V x') env' ∧ Agree Kp env' ∧ pickT m' t is = some (M x' ++ Mk) ∧ freshT t is = true
theorem Hand.mk {X : Type} {V : X → Env} {Kp : Env} {M : X → List Ent} {Mk : List Ent} {I : X → Prop} {μ : X → Nat} {x : X} (x' : X) (t : Nat) (is : List Nat) (hV : Agree (V x') env') (hK : Agree Kp env') (hM : pickT m' t is = some (M x' ++ Mk)) (hf : freshT t is = true) (hI : I x') (hlt : μ x' < μ x) : Hand V Kp M Mk I μ x env' m' := ⟨x', t, is, hI, hlt, hV, hK, hM, hf⟩
theorem Ex.loopK {c : Code} {X : Type} (V : X → Env) (M : X → List Ent) (I : X → Prop) (μ : X → Nat) (x0 : X) (Kp : Env) (Mk : List Ent) (t : Nat) (is : List Nat) (hV : Agree (V x0) env) (hK : Agree Kp env) (hM : pickT m t is = some (M x0 ++ Mk)) (hf : freshT t is = true) (h0 : I x0)
    (hr : ∀ x, I x → Ex C c (V x ++ Kp) (M x ++ Mk) (Sq (Hand V Kp M Mk I μ x) Q)) : Ex C (.loop c) env m Q := by
  unfold Ex at hr ⊢
  intro a w hrep hh
  refine wpIn_loop_ghost (fun k a w => ∃ x, μ x = k ∧ I x ∧ Rep C.n C.ds (V x ++ Kp) a ∧ Holds C.base C.w0 (M x ++ Mk) w) (μ x0) ⟨x0, rfl, h0, hrep.agree (hV.append hK), hh.pickT hM hf⟩ ?_
  rintro k a w ⟨x, rfl, hI, hrep, hh⟩
  refine wpIn_mono (hr x hI a w hrep hh) ?_
  rintro e a w ⟨ho, env, m, ds, hrep, hh, hq, hd⟩
  cases e with
  | normal =>
    obtain ⟨x', t', is', hI', hlt, hV', hK', hM', hf'⟩ := hq
    exact ⟨μ x', hlt, x', rfl, hI', (hd.same (fun e => nomatch e) ▸ hrep).agree (hV'.append hK'), hh.pickT hM' hf'⟩
  | exit k => exact ⟨rfl, env, m, ds, hrep, hh, hq, hd⟩
  | goto k => exact ⟨rfl, env, m, ds, hrep, hh, hq, hd⟩
  | ret => exact ⟨rfl, env, m, ds, hrep, hh, hq, hd⟩
  | panic k => simp [okExit] at ho
  | outgrown => simp [okExit] at ho
end Go.Sx
namespace Go.Sx
open Go Go.RowKit
theorem agI {k : IntKind} {a b : Int} (h : a = b) : some (Value.int k a) = some (.int k b) := by rw [h]
theorem tI {k : IntKind} {a b : Int} (h : a = b) : tupleOf [Value.int k a] = .int k b := by rw [h]; rfl
theorem tB {a b : Bool} (h : a = b) : tupleOf [Value.bool a] = .bool b := by rw [h]; rfl
theorem t2 {a b c d : Value} (h : a = c) (h' : b = d) : tupleOf [a, b] = .tuple #[c, d] := by rw [h, h']; rfl
theorem t3 {a b c a' b' c' : Value} (h : a = a') (h' : b = b') (h'' : c = c') : tupleOf [a, b, c] = .tuple #[a', b', c'] := by rw [h, h', h'']; rfl
theorem vI {k : IntKind} {a b : Int} (h : a = b) : Value.int k a = .int k b := by rw [h]
theorem vB {a b : Bool} (h : a = b) : Value.bool a = .bool b := by rw [h]
end Go.Sx
namespace Go.Sx
open Go Go.RowKit
variable {C : Cx} {env env' : Env} {m m' : List Ent} {o : Oper} {α : Type} {f : α → List Value} {sz : Nat} {xs : List α} {A : Option Addr}
theorem Reads.get {cs} (H : Reads C m A cs) : ∀ w, Holds C.base C.w0 m w → Rd w A cs := by unfold Reads at H; exact H
theorem fr_conv64 {S D x k p} (ho : o.op = .convert S D x) (hx : ev env x = some (.int k p)) (hS : C.P.underlying S = some (.int k)) (hD : C.P.underlying D = some (.int .i64)) (h : -9223372036854775808 ≤ p ∧ p ≤ 9223372036854775807) : Free C o env m (.int .i64 p) := by
  have := fr_conv (C := C) (m := m) ho hx hS hD
  rwa [wrap_i64 h.1 h.2] at this
theorem fr_convW {S D x k k' p} (z : Int) (ho : o.op = .convert S D x) (hx : ev env x = some (.int k p)) (hS : C.P.underlying S = some (.int k)) (hD : C.P.underlying D = some (.int k')) (h : k'.wrap p = z) : Free C o env m (.int k' z) := by
  have := fr_conv (C := C) (m := m) ho hx hS hD
  rwa [h] at this
theorem cellN {i : Nat} {v} (H : Reads C m A (xs.flatMap f)) (hf : ∀ x, (f x).length = sz) (d : α) (k : Nat) (hk : Nat.blt k sz = true) (hi : i < xs.length) (hv : (f (xs.getD i d))[k]? = some v) : CellO C m (offA A ((i : Int).toNat * sz + k)) v :=
  cellF H hf d k hk (by omega) hv
theorem segN {i : Nat} (H : Reads C m A (xs.flatMap f)) (hf : ∀ x, (f x).length = sz) (hp : Nat.blt 0 sz = true) (d : α) (hi : i < xs.length) : SegO C m (offA A ((i : Int).toNat * sz)) (f (xs.getD i d)) :=
  segF H hf hp d (by omega)
def Nums (b : Int) (s : List Int) : Prop := ∀ x, x ∈ s → 0 ≤ x ∧ x ≤ b
theorem Nums.at_ {b : Int} {s : List Int} (h : Nums b s) (hb : 0 ≤ b) (k : Nat) : 0 ≤ s.getD k 0 ∧ s.getD k 0 ≤ b := by
  rw [List.getD_eq_getElem?_getD]
  cases hk : s[k]? with
  | none => simp; exact hb
  | some x => exact h x (List.mem_of_getElem? hk)
end Go.Sx
namespace Go.Sx
open Go Go.RowKit
variable {C : Cx} {env env' : Env} {m m' : List Ent} {l : List Oper} {o : Oper} {K : Env → List Ent → Prop}
theorem ExD.cmp_eql {S fuel done i T x y T' k p q} {d : Nat} (hi : l[i]? = some o) (ht : takeOk l done i = true) (ho : o.op = .binOp .eql T x y T') (hx : ev env x = some (.int k p)) (hy : ev env y = some (.int k q)) (hS : S.Sublist m) (hg : wantB l env o = some true) (hd : o.dst = some d) (hlt : Nat.blt d C.n = true)
    (h1 : p = q → ExD C l S fuel (i :: done) ((d, .bool true) :: env) m K) (h2 : ¬ (p = q) → ExD C l S fuel (i :: done) ((d, .bool false) :: env) m K) : ExD C l S (fuel + 1) done env m K := by
  by_cases h : p = q
  · exact ExD.take hi ht (fr_eql_t ho hx hy h) hS hg hd hlt (h1 h)
  · exact ExD.take hi ht (fr_eql_f ho hx hy h) hS hg hd hlt (h2 h)
theorem ExD.cmp_neq {S fuel done i T x y T' k p q} {d : Nat} (hi : l[i]? = some o) (ht : takeOk l done i = true) (ho : o.op = .binOp .neq T x y T') (hx : ev env x = some (.int k p)) (hy : ev env y = some (.int k q)) (hS : S.Sublist m) (hg : wantB l env o = some true) (hd : o.dst = some d) (hlt : Nat.blt d C.n = true)
    (h1 : p ≠ q → ExD C l S fuel (i :: done) ((d, .bool true) :: env) m K) (h2 : ¬ (p ≠ q) → ExD C l S fuel (i :: done) ((d, .bool false) :: env) m K) : ExD C l S (fuel + 1) done env m K := by
  by_cases h : p ≠ q
  · exact ExD.take hi ht (fr_neq_t ho hx hy h) hS hg hd hlt (h1 h)
  · exact ExD.take hi ht (fr_neq_f ho hx hy h) hS hg hd hlt (h2 h)
theorem ExD.cmp_lss {S fuel done i T x y T' k p q} {d : Nat} (hi : l[i]? = some o) (ht : takeOk l done i = true) (ho : o.op = .binOp .lss T x y T') (hx : ev env x = some (.int k p)) (hy : ev env y = some (.int k q)) (hS : S.Sublist m) (hg : wantB l env o = some true) (hd : o.dst = some d) (hlt : Nat.blt d C.n = true)
    (h1 : p < q → ExD C l S fuel (i :: done) ((d, .bool true) :: env) m K) (h2 : ¬ (p < q) → ExD C l S fuel (i :: done) ((d, .bool false) :: env) m K) : ExD C l S (fuel + 1) done env m K := by
  by_cases h : p < q
  · exact ExD.take hi ht (fr_lss_t ho hx hy h) hS hg hd hlt (h1 h)
  · exact ExD.take hi ht (fr_lss_f ho hx hy h) hS hg hd hlt (h2 h)
theorem ExD.cmp_leq {S fuel done i T x y T' k p q} {d : Nat} (hi : l[i]? = some o) (ht : takeOk l done i = true) (ho : o.op = .binOp .leq T x y T') (hx : ev env x = some (.int k p)) (hy : ev env y = some (.int k q)) (hS : S.Sublist m) (hg : wantB l env o = some true) (hd : o.dst = some d) (hlt : Nat.blt d C.n = true)
    (h1 : p ≤ q → ExD C l S fuel (i :: done) ((d, .bool true) :: env) m K) (h2 : ¬ (p ≤ q) → ExD C l S fuel (i :: done) ((d, .bool false) :: env) m K) : ExD C l S (fuel + 1) done env m K := by
  by_cases h : p ≤ q
  · exact ExD.take hi ht (fr_leq_t ho hx hy h) hS hg hd hlt (h1 h)
  · exact ExD.take hi ht (fr_leq_f ho hx hy h) hS hg hd hlt (h2 h)
theorem ExD.cmp_geq {S fuel done i T x y T' k p q} {d : Nat} (hi : l[i]? = some o) (ht : takeOk l done i = true) (ho : o.op = .binOp .geq T x y T') (hx : ev env x = some (.int k p)) (hy : ev env y = some (.int k q)) (hS : S.Sublist m) (hg : wantB l env o = some true) (hd : o.dst = some d) (hlt : Nat.blt d C.n = true)
    (h1 : q ≤ p → ExD C l S fuel (i :: done) ((d, .bool true) :: env) m K) (h2 : ¬ (q ≤ p) → ExD C l S fuel (i :: done) ((d, .bool false) :: env) m K) : ExD C l S (fuel + 1) done env m K := by
  by_cases h : q ≤ p
  · exact ExD.take hi ht (fr_geq_t ho hx hy h) hS hg hd hlt (h1 h)
  · exact ExD.take hi ht (fr_geq_f ho hx hy h) hS hg hd hlt (h2 h)
end Go.Sx
namespace Go.Sx
theorem nd_t {p : Prop} [Decidable p] (h : (!decide p) = true) : ¬ p := by simpa using h
theorem nd_f {p : Prop} [Decidable p] (h : (!decide p) = false) : p := by simpa using h
theorem nb_t {b : Bool} (h : (!b) = true) : b = false := by simpa using h
theorem nb_f {b : Bool} (h : (!b) = false) : b = true := by simpa using h
end Go.Sx
namespace Go.Sx
open Go Go.RowKit
variable {C : Cx} {env env' : Env} {m m' : List Ent} {o : Oper} {α : Type} {f : α → List Value} {sz : Nat} {xs : List α} {A : Option Addr}
/-! ### Filling rows -/
theorem flat_put (hf : ∀ x, (f x).length = sz) : ∀ (xs : List α) (i : Nat) (y : α), i < xs.length → put (xs.flatMap f) (i * sz) (f y) = (xs.set i y).flatMap f
  | [], i, y, h => by simp at h
  | x :: t, 0, y, _ => by
    simp only [put, Nat.zero_mul, List.take_zero, List.nil_append, Nat.zero_add, List.set_cons_zero, List.flatMap_cons]
    rw [List.drop_append, hf, hf, Nat.sub_self, List.drop_zero, List.drop_of_length_le (by rw [hf]; exact Nat.le_refl _), List.nil_append]
  | x :: t, i + 1, y, h => by
    have ih := flat_put hf t i y (by simpa using h)
    have e : (i + 1) * sz = sz + i * sz := by rw [Nat.add_mul, Nat.one_mul]; omega
    simp only [put, List.set_cons_succ, List.flatMap_cons] at ih ⊢
    rw [← ih, e, List.take_append, List.take_of_length_le (by rw [hf]; omega), hf, Nat.add_sub_cancel_left, List.drop_append, hf, List.drop_of_length_le (by rw [hf]; omega), List.nil_append]
    simp only [List.append_assoc]
    congr 4
    rw [hf]; omega
/-- k of them are done, z stands in the rest. -/
def part (z : α) (d : List α) (k : Nat) : List α := d.take k ++ List.replicate (d.length - k) z
theorem part_len (z : α) (d : List α) (k : Nat) (h : k ≤ d.length) : (part z d k).length = d.length := by simp [part]; omega
theorem part_set (z w : α) (d : List α) (k : Nat) (h : k < d.length) : (part z d k).set k (d.getD k w) = part z d (k + 1) := by
  unfold part
  rw [List.set_append_right _ _ (by simp; omega)]
  have h1 : k - (d.take k).length = 0 := by simp; omega
  rw [h1, show d.length - k = (d.length - (k + 1)) + 1 by omega, List.replicate_succ, List.set_cons_zero, show d.take (k + 1) = d.take k ++ [d[k]] from List.take_succ_eq_append_getElem h, List.append_assoc]
  simp [List.getD, h]
theorem part_all (z : α) (d : List α) : part z d d.length = d := by simp [part]
theorem part_put (hf : ∀ x, (f x).length = sz) (z w : α) (d : List α) (k : Nat) (h : k < d.length) {i : Nat} (hi : i = k * sz) {v : List Value} (hv : v = f (d.getD k w)) : put ((part z d k).flatMap f) i v = (part z d (k + 1)).flatMap f := by
  subst hi hv
  rw [flat_put hf _ _ _ (by rw [part_len _ _ _ (by omega)]; exact h), part_set _ _ _ _ h]
theorem zeros_flat (hf : ∀ x, (f x).length = sz) (z : α) (hp : 0 < sz) (n : Nat) : zerosL (f z) n = (List.replicate n z).flatMap f := by
  apply List.ext_getElem?
  intro j
  by_cases hj : j < n * sz
  · have h1 : j / sz < n := Nat.div_lt_of_lt_mul (by rw [Nat.mul_comm]; exact hj)
    have h2 : j % sz < sz := Nat.mod_lt _ hp
    have h3 := flat_get hf z (List.replicate n z) (j / sz) (j % sz) (by simpa using h1) h2
    rw [show j / sz * sz + j % sz = j by rw [Nat.mul_comm]; exact Nat.div_add_mod j sz] at h3
    rw [h3]
    simp only [zerosL, List.getElem?_map, List.length_map, List.length_range, hf]
    rw [List.getElem?_range hj]
    have h4 : (List.replicate n z).getD (j / sz) z = z := by simp [List.getD, h1]
    rw [h4]
    have : j % sz < (f z).length := by rw [hf]; exact h2
    simp [List.getD, List.getElem?_eq_getElem this]
  · rw [List.getElem?_eq_none (by simp [zerosL, hf]; omega), List.getElem?_eq_none (by rw [flat_len hf]; simp; omega)]
theorem part_zero (z : α) (d : List α) : part z d 0 = List.replicate d.length z := by simp [part]
theorem pkB {b : Nat} {cs cs' : List Value} {T : TypeId} {r : List Ent} (h : cs = cs') : some (Ent.blk b cs T :: r) = some (.blk b cs' T :: r) := by rw [h]
theorem pkR {v : Value} {E sz n : Nat} {cs cs' : List Value} {r : List Ent} (h : cs = cs') : some (Ent.row v E sz n cs :: r) = some (.row v E sz n cs' :: r) := by rw [h]
theorem perm_at : ∀ {m : List Ent} {i : Nat} {e : Ent}, m[i]? = some e → m.Perm ([e] ++ m.eraseIdx i)
  | [], i, e, h => by simp at h
  | x :: t, 0, e, h => by simp at h; subst h; exact List.Perm.refl _
  | x :: t, i + 1, e, h => by
    have := perm_at (m := t) (i := i) (e := e) (by simpa using h)
    exact (List.Perm.cons x this).trans (List.Perm.swap e x _)
end Go.Sx
namespace Go.Sx
open Go Go.RowKit
variable {C : Cx} {env env' : Env} {m m' : List Ent} {o : Oper}
theorem eqGuard_bool (op : BinOp) (T : TypeId) (x y : Operand) (p q : Bool) (P : Program) (w : World) : (eqGuard op T x y (.bool p) (.bool q)).run P w = .ok () w := by
  unfold eqGuard
  cases op <;> rfl
theorem run_equal_bool' {P : Program} {w : World} {T : TypeId} {p q : Bool} (hT : P.underlying T = some .bool) : (Op.equal T (.bool p) (.bool q)).run P w = .ok (p == q) w := by
  unfold Op.equal Op.maxDepth
  rw [show (10000 : Nat) = 9999 + 1 from rfl]
  unfold Op.equalIn
  rw [Sem.run_bind, run_underlying hT]
  rfl
theorem fr_eql_bool {T x y T' p q} (ho : o.op = .binOp .eql T x y T') (hx : ev env x = some (.bool p)) (hy : ev env y = some (.bool q)) (hT : C.P.underlying T = some .bool) : Free C o env m (.bool (p == q)) := by
  unfold Free
  intro a w hr _
  have h : (binOp .eql T (.bool p) (.bool q)).run C.P w = .ok (.bool (p == q)) w := by
    have he := run_equal_bool' (P := C.P) (w := w) (p := p) (q := q) hT
    unfold binOp
    simp only [Sem.run_bind, he, Result.andThen_ok, Sem.run_pure]; first | done | rfl
  simp only [execOp, ho, hr.ev hx, hr.ev hy, Sem.run_bind, eqGuard_bool, Result.andThen_ok, h]; rfl
theorem fr_neq_bool {T x y T' p q} (ho : o.op = .binOp .neq T x y T') (hx : ev env x = some (.bool p)) (hy : ev env y = some (.bool q)) (hT : C.P.underlying T = some .bool) : Free C o env m (.bool (p != q)) := by
  unfold Free
  intro a w hr _
  have h : (binOp .neq T (.bool p) (.bool q)).run C.P w = .ok (.bool (p != q)) w := by
    have he := run_equal_bool' (P := C.P) (w := w) (p := p) (q := q) hT
    unfold binOp
    simp only [Sem.run_bind, he, Result.andThen_ok, Sem.run_pure]; first | done | rfl
  simp only [execOp, ho, hr.ev hx, hr.ev hy, Sem.run_bind, eqGuard_bool, Result.andThen_ok, h]; rfl
end Go.Sx
namespace Go.Sx
open Go Go.RowKit
variable {C : Cx} {env env' : Env} {m m' : List Ent} {o : Oper}
attribute [local irreducible] Ex ExL ExD Op1 RetQ MutQ Reads CellO SegO LoadsAs
/-- Two arrays of one kind of integers, told apart cell by cell. -/
theorem eqItems_ints {P : Program} {e : TypeId} {k : IntKind} (he : P.underlying e = some (.int k)) (d : Nat) (xs ys : List Int) (hl : xs.length = ys.length) (w : World) :
    ∀ (n j : Nat), j + n = xs.length → (Op.eqItems (d + 1) e 1 (xs.flatMap (eI k)).toArray (ys.flatMap (eI k)).toArray (List.range' j n)).run P w = .ok (decide (xs.drop j = ys.drop j)) w := by
  intro n
  induction n with
  | zero => intro j hj; rw [List.drop_of_length_le (by omega), List.drop_of_length_le (by omega)]; simp [Op.eqItems]
  | succ n ih =>
    intro j hj
    have gx : (xs.flatMap (eI k)).toArray[j * 1]? = some (.int k (xs.getD j 0)) := by
      have := flat_get (f := eI k) (sz := 1) (eI_len k) 0 xs j 0 (by omega) (by omega)
      simpa [eI] using this
    have gy : (ys.flatMap (eI k)).toArray[j * 1]? = some (.int k (ys.getD j 0)) := by
      have := flat_get (f := eI k) (sz := 1) (eI_len k) 0 ys j 0 (by omega) (by omega)
      simpa [eI] using this
    have px := run_part1 (P := P) he (by rfl) gx w
    have py := run_part1 (P := P) he (by rfl) gy w
    simp only [List.range'_succ, Op.eqItems, Sem.run_bind, px, py, Result.andThen_ok, run_equalIn_int w d e k k _ _ he]
    have dx : xs.drop j = xs.getD j 0 :: xs.drop (j + 1) := by rw [List.drop_eq_getElem_cons (by omega)]; simp [List.getD, show j < xs.length by omega]
    have dy : ys.drop j = ys.getD j 0 :: ys.drop (j + 1) := by rw [List.drop_eq_getElem_cons (by omega)]; simp [List.getD, show j < ys.length by omega]
    rw [dx, dy]
    by_cases hq : xs.getD j 0 = ys.getD j 0
    · rw [hq]; simp only [beq_self_eq_true, Bool.not_true, Bool.false_eq_true, if_false]
      rw [ih (j + 1) (by omega)]; simp
    · have : (xs.getD j 0 == ys.getD j 0) = false := by simpa using hq
      rw [this]; simp only [Bool.not_false, if_true, Sem.run_pure]
      rw [decide_eq_false (fun h => hq (List.cons.inj h).1)]
theorem equal_ints {P : Program} {t e : TypeId} {k : IntKind} {n : Nat} {i : TypeInfo} (hu : P.underlying t = some (.array n e)) (hi : P.info? e = some i) (hs : i.size = 1) (he : P.underlying e = some (.int k)) (xs ys : List Int) (hx : xs.length = n) (hy : ys.length = n) (w : World) :
    (Op.equal t (.agg (xs.flatMap (eI k)).toArray) (.agg (ys.flatMap (eI k)).toArray)).run P w = .ok (decide (xs = ys)) w := by
  unfold Op.equal Op.maxDepth
  rw [show (10000 : Nat) = 9998 + 1 + 1 from rfl, run_equalIn_array w (9998 + 1) _ _ hu hi, show P.cellsOf e = 1 by simp [Program.cellsOf, hi, hs], List.range_eq_range']
  have := eqItems_ints he 9998 xs ys (by omega) w n 0 (by omega)
  simpa using this
theorem guard_agg {P : Program} (op : BinOp) (t : TypeId) (x y : Operand) (xs ys : Array Value) (hm : P.eqGuardType P.depth t = false) (w : World) : (eqGuard op t x y (.agg xs) (.agg ys)).run P w = .ok () w := run_eqGuard_agg w op t x y xs ys hm
theorem fr_eql_ints {T x y T' e n i} {k : IntKind} (xs ys : List Int) (ho : o.op = .binOp .eql T x y T') (hx : ev env x = some (.agg (xs.flatMap (eI k)).toArray)) (hy : ev env y = some (.agg (ys.flatMap (eI k)).toArray)) (hT : C.P.underlying T = some (.array n e)) (hi : C.P.info? e = some i) (hs : i.size = 1) (he : C.P.underlying e = some (.int k)) (hg : C.P.eqGuardType C.P.depth T = false) (hxl : xs.length = n) (hyl : ys.length = n) : Free C o env m (.bool (decide (xs = ys))) := by
  unfold Free
  intro a w hr _
  have h : (binOp .eql T (.agg (xs.flatMap (eI k)).toArray) (.agg (ys.flatMap (eI k)).toArray)).run C.P w = .ok (.bool (decide (xs = ys))) w := by
    have hq := equal_ints hT hi hs he xs ys hxl hyl w
    unfold binOp
    simp only [Sem.run_bind, hq, Result.andThen_ok, Sem.run_pure]
  simp only [execOp, ho, hr.ev hx, hr.ev hy, Sem.run_bind, guard_agg _ _ _ _ _ _ hg, Result.andThen_ok, h]; rfl
theorem fr_neq_ints {T x y T' e n i} {k : IntKind} (xs ys : List Int) (ho : o.op = .binOp .neq T x y T') (hx : ev env x = some (.agg (xs.flatMap (eI k)).toArray)) (hy : ev env y = some (.agg (ys.flatMap (eI k)).toArray)) (hT : C.P.underlying T = some (.array n e)) (hi : C.P.info? e = some i) (hs : i.size = 1) (he : C.P.underlying e = some (.int k)) (hg : C.P.eqGuardType C.P.depth T = false) (hxl : xs.length = n) (hyl : ys.length = n) : Free C o env m (.bool (!decide (xs = ys))) := by
  unfold Free
  intro a w hr _
  have h : (binOp .neq T (.agg (xs.flatMap (eI k)).toArray) (.agg (ys.flatMap (eI k)).toArray)).run C.P w = .ok (.bool (!decide (xs = ys))) w := by
    have hq := equal_ints hT hi hs he xs ys hxl hyl w
    unfold binOp
    simp only [Sem.run_bind, hq, Result.andThen_ok, Sem.run_pure]
  simp only [execOp, ho, hr.ev hx, hr.ev hy, Sem.run_bind, guard_agg _ _ _ _ _ _ hg, Result.andThen_ok, h]; rfl
/-- A cell of an array that lies in a block of the call's own, at a reckoned place. -/
theorem blkG {α : Type} {f : α → List Value} {sz : Nat} (hf : ∀ x, (f x).length = sz) (d : α) {xs : List α} {i : Nat} {v : Value} (hp : Nat.blt 0 sz = true) (hi : i < xs.length) (hv : (f (xs.getD i d))[0]? = some v) : (xs.flatMap f)[0 + (i : Int).toNat * sz]? = some v := by
  have := flat_get hf d xs i 0 hi (by simpa using hp)
  rw [Nat.add_zero] at this
  rw [show 0 + (i : Int).toNat * sz = i * sz by simp, this, hv]
end Go.Sx
namespace Go.Sx
open Go Go.RowKit
variable {C : Cx} {env env' : Env} {m m' : List Ent} {o : Oper} {α : Type} {f : α → List Value} {sz : Nat} {xs : List α} {A : Option Addr}
theorem zpart (hf : ∀ x, (f x).length = sz) (z : α) (hp : Nat.blt 0 sz = true) (d : List α) {n : Nat} (hn : n = d.length) : zerosL (f z) n = (part z d 0).flatMap f := by
  subst hn; rw [part_zero]; exact zeros_flat hf z (by simpa using hp) _
theorem room (hf : ∀ x, (f x).length = sz) {k j : Nat} (h : k < xs.length) (hj : j = k * sz) {new : List Value} (hn : new.length = sz) : j + new.length ≤ (xs.flatMap f).length := by
  subst hj; rw [hn, flat_len hf, ← Nat.succ_mul]; exact Nat.mul_le_mul_right _ h
theorem flat_seg (hf : ∀ x, (f x).length = sz) (d : α) : ∀ (xs : List α) (i : Nat), i < xs.length → ((xs.flatMap f).drop (i * sz)).take sz = f (xs.getD i d)
  | [], i, h => by simp at h
  | x :: t, 0, _ => by simp [List.take_append, hf, List.take_of_length_le]
  | x :: t, i + 1, h => by
    have ih := flat_seg hf d t i (by simpa using h)
    have e : (i + 1) * sz = sz + i * sz := by rw [Nat.add_mul, Nat.one_mul]; omega
    rw [List.flatMap_cons, e, List.drop_append, hf, List.drop_of_length_le (by rw [hf]; omega), List.nil_append, Nat.add_sub_cancel_left, ih]; simp
theorem part_lt {z : α} {d : List α} {k j : Nat} (h : k < d.length) (hj : j ≤ d.length) : k < (part z d j).length := by rw [part_len _ _ _ hj]; exact h
/-- k of them are new. -/
def over (d' d : List α) (k : Nat) : List α := d'.take k ++ d.drop k
end Go.Sx
namespace Go.Sx
open Go Go.RowKit
variable {C : Cx} {env env' : Env} {m m' : List Ent} {o : Oper} {K : Env → List Ent → Prop}
def cover : List Value → List Value → List Value
  | [], cs => cs
  | _ :: _, [] => []
  | n :: new, _ :: cs => n :: cover new cs
/-- 'put', to be reckoned cell by cell. -/
def putC : List Value → Nat → List Value → List Value
  | cs, 0, new => cover new cs
  | [], _ + 1, _ => []
  | c :: cs, k + 1, new => c :: putC cs k new
theorem cover_eq : ∀ (new cs : List Value), new.length ≤ cs.length → cover new cs = new ++ cs.drop new.length
  | [], cs, _ => rfl
  | n :: new, [], h => by simp at h
  | n :: new, c :: cs, h => by simp only [cover, List.cons_append, List.length_cons, List.drop_succ_cons]; rw [cover_eq new cs (by simpa using h)]
theorem putC_eq : ∀ (cs : List Value) (k : Nat) (new : List Value), k + new.length ≤ cs.length → putC cs k new = put cs k new
  | cs, 0, new, h => by simp only [putC, put, List.take_zero, List.nil_append, Nat.zero_add]; exact cover_eq _ _ (by omega)
  | [], k + 1, new, h => by simp at h
  | c :: cs, k + 1, new, h => by
    have ih := putC_eq cs k new (by simp at h; omega)
    simp only [putC, ih, put, List.take_succ_cons, List.cons_append, Nat.succ_add, List.drop_succ_cons]
theorem op_storeC {i b k cs T T' x y v new n} (ho : o.op = .store T x y) (hx : ev env x = some (.pointer (some ⟨b, k, none⟩))) (hy : ev env y = some v) (hc : v.cells = List.toArray new) (hone : new.all (·.oneCell') = true) (hs : (C.P.info? T).map (·.size) = some n) (hn : Nat.beq new.length n = true) (hi : m[i]? = some (.blk b cs T')) (hk : Nat.ble (k + new.length) cs.length = true) (hd : o.dst = none)
    (h : K env (m.set i (.blk b (putC cs k new) T'))) : Op1 C o env m K := by
  rw [putC_eq cs k new (Nat.le_of_ble_eq_true hk)] at h
  exact op_store ho hx hy hc hone hs hn hi (Nat.le_of_ble_eq_true hk) hd h
end Go.Sx
namespace Go.Sx
open Go Go.RowKit
variable {C : Cx} {env env' : Env} {m m' : List Ent} {o : Oper} {K : Env → List Ent → Prop}
theorem fr_shr {T x y T' k k' p q} (ho : o.op = .binOp .shr T x y T') (hx : ev env x = some (.int k p)) (hy : ev env y = some (.int k' q)) (hq : 0 ≤ q) : Free C o env m (.int k (p / 2 ^ min q.toNat k.bits)) := by
  unfold Free
  intro a w hr _
  have h : (binOp .shr T (.int k p) (.int k' q)).run C.P w = .ok (.int k (p / 2 ^ min q.toNat k.bits)) w := by
    simp only [binOp, Go.shift_shr_any k k' p q hq, Sem.run_pure]
  simp only [execOp, ho, hr.ev hx, hr.ev hy, Sem.run_bind, eqGuard_int, Result.andThen_ok, h]; rfl
theorem fr_shl {T x y T' k k' p q} (ho : o.op = .binOp .shl T x y T') (hx : ev env x = some (.int k p)) (hy : ev env y = some (.int k' q)) (hq : 0 ≤ q) : Free C o env m (.int k (k.wrap (p * 2 ^ min q.toNat k.bits))) := by
  unfold Free
  intro a w hr _
  have h : (binOp .shl T (.int k p) (.int k' q)).run C.P w = .ok (.int k (k.wrap (p * 2 ^ min q.toNat k.bits))) w := by
    simp only [binOp, Go.shift_shl_any k k' p q hq, Sem.run_pure]
  simp only [execOp, ho, hr.ev hx, hr.ev hy, Sem.run_bind, eqGuard_int, Result.andThen_ok, h]; rfl
theorem fr_bits {op T x y T' k p q} (ho : o.op = .binOp op T x y T') (hx : ev env x = some (.int k p)) (hy : ev env y = some (.int k q)) (hop : op = .and ∨ op = .or ∨ op = .xor ∨ op = .andNot) : Free C o env m (.int k (bits op k p q)) := by
  unfold Free
  intro a w hr _
  have h : (binOp op T (.int k p) (.int k q)).run C.P w = .ok (.int k (bits op k p q)) w := by
    rcases hop with rfl | rfl | rfl | rfl <;> simp [binOp] <;> rfl
  simp only [execOp, ho, hr.ev hx, hr.ev hy, Sem.run_bind, eqGuard_int, Result.andThen_ok, h]; rfl
theorem wraps_i64 (n : Int) (h₀ : 0 ≤ n) (h₁ : n < 2 ^ 63) : IntKind.i64.wrap n = n := by rw [IntKind.wrap_i64]; omega
theorem fr_and255 {T x y T' p} (ho : o.op = .binOp .and T x y T') (hx : ev env x = some (.int .i64 p)) (hy : ev env y = some (.int .i64 255)) (h : 0 ≤ p ∧ p ≤ 9223372036854775807) : Free C o env m (.int .i64 (p % 256)) := by
  have := fr_bits (C := C) (m := m) ho hx hy (.inl rfl)
  rwa [show bits .and .i64 p 255 = p % 256 from bits_mask .i64 63 (by decide) wraps_i64 8 (by decide) p h.1 (by omega)] at this
theorem fr_conv_u64 {S D x k p} (ho : o.op = .convert S D x) (hx : ev env x = some (.int k p)) (hS : C.P.underlying S = some (.int k)) (hD : C.P.underlying D = some (.int .u64)) (h : 0 ≤ p ∧ p ≤ 18446744073709551615) : Free C o env m (.int .u64 p) := fr_convW p ho hx hS hD (IntWalk.u64_in _ h)
theorem fr_conv_u8 {S D x k p} (ho : o.op = .convert S D x) (hx : ev env x = some (.int k p)) (hS : C.P.underlying S = some (.int k)) (hD : C.P.underlying D = some (.int .u8)) (h : 0 ≤ p ∧ p ≤ 255) : Free C o env m (.int .u8 p) := fr_convW p ho hx hS hD (IntWalk.u8_in _ h)
theorem idxG {α : Type} {f : α → List Value} {sz : Nat} (hf : ∀ x, (f x).length = sz) (d : α) {xs : List α} {i : Nat} {v : Value} (hp : Nat.blt 0 sz = true) (hi : i < xs.length) (hv : (f (xs.getD i d))[0]? = some v) : (xs.flatMap f)[(i : Int).toNat * sz]? = some v := by
  have := blkG hf d hp hi hv
  rwa [Nat.zero_add] at this
end Go.Sx
namespace Go.Sx
open Go Go.RowKit
variable {C : Cx} {env env' : Env} {m m' : List Ent} {o : Oper} {K : Env → List Ent → Prop}
theorem fr_build {T parts idx} {vs cells : List Value} (ho : o.op = .build T parts) (hi : parts.toList.map Prod.fst = idx) (hv : evs env (parts.toList.map Prod.snd) = some vs) (h : C.P.built T (idx.zip vs) = some (List.toArray cells)) : Free C o env m (.agg cells.toArray) := by
  unfold Free
  intro a w hr _
  have e : (parts.map fun p => (p.fst, a.eval p.snd)).toList = idx.zip vs := by
    have h3 := hr.evs hv
    rw [Array.toList_map, ← h3, ← hi, List.map_map]
    generalize parts.toList = ps
    induction ps with
    | nil => rfl
    | cons p t ih => simp only [List.map_cons, List.zip_cons_cons, ih, Function.comp]
  have hb := run_build (P := C.P) w T (parts.map fun p => (p.fst, a.eval p.snd)) cells.toArray (by rw [e]; exact h)
  simp only [execOp, ho, Sem.run_bind, hb, Result.andThen_ok]
  rfl
end Go.Sx
namespace Go.Sx
open Go Go.RowKit
variable {C : Cx} {env env' : Env} {m m' : List Ent} {o : Oper} {K : Env → List Ent → Prop}
/-! Through a pointer that was handed over. -/
theorem CellO.at {b q : Nat} (k : Nat) {cs : List Value} {v} (h : Reads C m (some ⟨b, q, none⟩) cs) (hv : cs[k]? = some v) : CellO C m (some ⟨b, q + k, none⟩) v := by
  have := CellO.of h hv
  simpa [offA, add_at] using this
theorem SegO.at {b q : Nat} (k : Nat) {cs seg : List Value} (n : Nat) (h : Reads C m (some ⟨b, q, none⟩) cs) (hs : (cs.drop k).take n = seg) : SegO C m (some ⟨b, q + k, none⟩) seg := by
  unfold SegO
  unfold Reads at h
  intro w hw
  refine ⟨_, rfl, fun j u hj => ?_⟩
  subst hs
  have hj' : cs[k + j]? = some u := by
    rw [List.getElem?_take] at hj
    split at hj
    · rwa [List.getElem?_drop] at hj
    · cases hj
  obtain ⟨ad, ha, hc⟩ := h w hw _ u hj'
  cases ha
  rw [add_at] at hc ⊢
  rwa [Nat.add_assoc]
theorem Reads.elem {α : Type} {f : α → List Value} {sz : Nat} {xs : List α} {A : Option Addr} {i : Nat} (H : Reads C m A (xs.flatMap f)) (hf : ∀ x, (f x).length = sz) (d : α) (hi : i < xs.length) : Reads C m (offA A ((i : Int).toNat * sz)) (f (xs.getD i d)) := by
  refine (H.seg _).pre fun j u hj => ?_
  have hlt : j < sz := by rw [← hf (xs.getD i d)]; exact (List.getElem?_eq_some_iff.1 hj).1
  rw [List.getElem?_drop]
  exact (flat_get hf d xs _ j hi hlt).trans hj
/-- A slice set against nil. -/
theorem run_equal_nil {P : Program} {w : World} {T E : TypeId} {A : Option Addr} {n c : Nat} (hT : P.underlying T = some (.slice E)) : (Op.equal T (.slice A n c) (.slice none 0 0)).run P w = .ok A.isNone w := by
  unfold Op.equal Op.maxDepth
  rw [show (10000 : Nat) = 9999 + 1 from rfl]
  unfold Op.equalIn
  rw [Sem.run_bind, run_underlying hT]
  cases A <;> rfl
theorem fr_eql_nil {T x y T' E A n c} (ho : o.op = .binOp .eql T x y T') (hx : ev env x = some (.slice A n c)) (hy : ev env y = some (.slice none 0 0)) (hT : C.P.underlying T = some (.slice E)) : Free C o env m (.bool A.isNone) := by
  unfold Free
  intro a w hr _
  have h : (binOp .eql T (.slice A n c) (.slice none 0 0)).run C.P w = .ok (.bool A.isNone) w := by
    have hq := run_equal_nil (P := C.P) (w := w) (A := A) (n := n) (c := c) hT
    unfold binOp
    simp only [Sem.run_bind, hq, Result.andThen_ok, Sem.run_pure]
  have hg : (eqGuard .eql T x y (.slice A n c) (.slice none 0 0)).run C.P w = .ok () w := by unfold eqGuard; rfl
  simp only [execOp, ho, hr.ev hx, hr.ev hy, Sem.run_bind, hg, Result.andThen_ok, h]; rfl
theorem op_append0 {d : Nat} {i : Nat} {s x T E A c sz B k cb news bytes} (ho : o.op = .call { callee := .builtin .append, args := #[s, x], argTypes := #[T, T] })
    (hs : ev env s = some (.slice A 0 c)) (hx : ev env x = some (.slice B k cb)) (hi : m[i]? = some (.row (.slice A 0 c) E sz 0 [])) (hr : Reads C m B news) (hl : news.length = k * sz) (hB : B = none → k = 0 ∧ cb = 0)
    (hone : news.all (·.oneCell') = true) (hT : C.P.underlying T = some (.slice E)) (hz : (C.P.info? E).map (fun i => (i.size, i.bytes, i.zero.map (·.cells.size))) = some (sz, bytes, some sz)) (hp0 : Nat.blt 0 sz = true)
    (hb : k * bytes ≤ 140737488355328 ∧ k ≤ maxLen) (hd : o.dst = some d) (hlt : Nat.blt d C.n = true)
    (h : ∀ A' c', K (((d, (.slice A' k c')) :: env)) (m.set i (.row (.slice A' k c') E sz k news))) : Op1 C o env m K :=
  op_append ho hs hx hi hr hl hB hone hT hz hp0 (by simpa using hb) hd hlt (by simpa using h)
theorem all_flat {α : Type} {f : α → List Value} (hf : ∀ x, (f x).all (·.oneCell') = true) (xs : List α) : (xs.flatMap f).all (·.oneCell') = true := by
  rw [List.all_flatMap, List.all_eq_true]; intro x _; exact hf x
end Go.Sx
namespace Go.Sx
open Go Go.RowKit
variable {C : Cx} {env env' : Env} {m m' : List Ent} {Q Q' : Post} {l rest : List Oper} {o : Oper} {K : Env → List Ent → Prop}
/-! ### A range over a function -/
theorem ExL.yield {d lp : Nat} {fo args at_ vs} (ho : o.op = .call { callee := .value fo, args := args, argTypes := at_ }) (hfo : ev env fo = some (.func (.yield lp) #[] #[])) (hargs : evs env args.toList = some vs) (hg : wantB l env o = some true) (hd : o.dst = some d) (hlt : Nat.blt d C.n = true)
    (hy : ∀ w, Holds C.base C.w0 m w → YieldAt (fc none) 0 C.P lp vs.toArray w (fun e w' => e = .returned (.bool true) ∧ Holds C.base C.w0 m' w'))
    (h : ExL C l rest ((d, .bool true) :: env) m' K) : ExL C l (o :: rest) env m K := by
  unfold ExL at h ⊢
  intro a w hr hh
  have hw := wantB_ok hr hg
  unfold wl
  rw [if_pos hw]
  refine .inr ?_
  obtain ⟨f, tm, asg, bd, hyr, hR⟩ := hy w hh
  have e1 : args.map a.eval = vs.toArray := by rw [← hr.evs hargs]; simp [← Array.toList_inj]
  refine ⟨lp, f, tm, asg, bd, w, ?_, ?_⟩
  · simp [execOp, ho, resolve, hr.ev hfo, Deferred.ofValue, invoke, e1, hyr]
  · refine RoundIn.mono (F := fc C.rd) hR ?_
    rintro e w' ⟨rfl, hh'⟩
    exact h _ _ (hr.put1 hd hlt) hh'
/-- What a loop's rounds do to what is held: box stands, Mf k becomes Mf (k + 1). -/
def Yields (P : Program) (l base : Nat) (w0 : World) (box : Ent) (Mf : Nat → List Ent) (N : Nat) (encs : Nat → List Value) : Prop :=
  ∀ k W, k < N → Holds base w0 (box :: Mf k) W → YieldAt (fc none) 0 P l (encs k).toArray W (fun e W' => e = .returned (.bool true) ∧ Holds base w0 (box :: Mf (k + 1)) W')
/-- A function that yields encs 0, .., encs (N - 1), one behind the other. -/
def Iter (P : Program) (gf : FuncId) (lb : List Value) (base : Nat) (w0 : World) (box : Ent) (N : Nat) (encs : Nat → List Value) : Prop :=
  Enters P gf ∧ ∀ (w1 : World) (l : Nat) (Mf : Nat → List Ent) (W : World), Below base w0 w1 → Yields P l base w1 box Mf N encs → Holds base w1 (box :: Mf 0) W →
    Calls P gf (.func (.yield l) #[] #[] :: lb).toArray W fun e W' => (∃ v, e = .returned v) ∧ Holds base w1 (box :: Mf N) W'
def zipR : List Nat → List Value → Env → Env
  | p :: ps, v :: vs, env => zipR ps vs ((p, v) :: env)
  | _, _, env => env
theorem rep_zip {n : Nat} {ds : List Deferred} : ∀ {ps : List Nat} {vs : List Value} {env : Env} {tm : Array Value}, ps.all (fun p => Nat.blt p n) = true → Rep n ds env { tmps := tm, defers := ds } → Rep n ds (zipR ps vs env) { tmps := (ps.zip vs).foldl (fun t (p, v) => t.setIfInBounds p v) tm, defers := ds }
  | [], _, _, _, _, h => by simpa [zipR] using h
  | p :: ps, [], _, _, _, h => by simpa [zipR] using h
  | p :: ps, v :: vs, env, tm, hp, h => by
    simp only [List.all_cons, Bool.and_eq_true] at hp
    simp only [zipR, List.zip_cons_cons, List.foldl_cons]
    exact rep_zip hp.2 (h.put1 (dst := some p) rfl hp.1)
theorem Holds.fresh {base w0 m w w'} (h : Holds base w0 m w) (hg : w.grownBy w' none) : Holds base w' m w' :=
  ⟨Below.refl _ _, Nat.le_trans h.wle hg.size, fun e he => (h.all e he).grown hg (by simp), h.apart, KeepsOthers.refl _⟩
theorem Holds.fresh0 {base w0 m w} (h : Holds base w0 m w) : Holds base w m w := ⟨Below.refl _ _, h.wle, h.all, h.apart, KeepsOthers.refl _⟩
theorem Holds.freshPut {base w0 m w} (h : Holds base w0 m w) {L : Nat} {o o' : Obj} (hL : w.heap[L]? = some o) (ho : o.isCells = false) (hm : isMapO o = false := by rfl) : Holds base (w.putObj L o') m (w.putObj L o') :=
  ⟨Below.refl _ _, by simp; exact h.wle, fun e he => (h.all e he).put hL ho hm, h.apart, KeepsOthers.refl _⟩
theorem below_put {base : Nat} {w : World} {L : Nat} (o' : Obj) (hb : base ≤ w.heap.size) (hL : base ≤ L) : Below base w (w.putObj L o') := (Below.refl base w).grown (grownBy_putObj' w L o') hb (fun k e => by cases e; exact hL)
/-- One piece of code, and another one behind it. -/
def ExT (C : Cx) (c B : Code) (env : Env) (m : List Ent) (Q : Post) : Prop := ∀ a w, Rep C.n C.ds env a → Holds C.base C.w0 m w → c.wpIn (fc C.rd) 0 C.P (Exit.then (B.wpIn (fc C.rd) 0 C.P (post C Q)) (post C Q)) a w
theorem ExT.seq {c B : Code} (h : ExT C c B env m Q) : Ex C (.seq c B) env m Q := by
  unfold Ex
  exact fun a w hr hh => wpIn_seq (h a w hr hh)
theorem ExT.reg {id : Nat} {l : List Oper} {c B : Code} (h : ExL C l l env m (fun env m => ExT C c B env m Q)) (hrd : regOk C.rd l = true := by rfl) : ExT C (.seq (.region id l.toArray false) c) B env m Q := by
  intro a w hr hh
  have h1 : Ex C (.region id l.toArray false) env m (fun e env m => e = .normal ∧ ExT C c B env m Q) := Ex.region (by
    unfold ExL at h ⊢
    exact fun a w hr hh => by
      have key : ∀ (rest : List Oper) (a : Act) (w : World), wl C.rd C.P l.toArray (postN C (fun env m => ExT C c B env m Q)) rest a w → wl C.rd C.P l.toArray (postN C (fun env m => (Exit.normal = .normal) ∧ ExT C c B env m Q)) rest a w := by
        have e : (fun env m => (Exit.normal = .normal) ∧ ExT C c B env m Q) = (fun env m => ExT C c B env m Q) := by funext env m; simp
        rw [e]; exact fun _ _ _ h => h
      exact key _ _ _ (h a w hr hh)) hrd
  unfold Ex at h1
  refine wpIn_seq (wpIn_mono (h1 a w hr hh) ?_)
  rintro e a w ⟨ho, env, m, ds, hr, hh, ⟨rfl, hq⟩, hd⟩
  exact hq a w (hd.same (fun e => nomatch e) ▸ hr) hh
theorem Ex.rangeF {g : Operand} {ps : List Nat} {asg bd B : Code} {id gf N : Nat} {lb : List Value} {encs : Nat → List Value} {box : Ent} {Mf : Nat → List Ent} (t : Nat) (is : List Nat) (E1 : Nat → Env) (hrd : C.rd = none) (hds : C.ds = [])
    (hg : ev env g = some (.func (.func gf) #[] (List.toArray lb))) (hit : Iter C.P gf lb C.base C.w0 box N encs) (hps : ∀ k, (encs k).length = ps.length) (hpn : ps.all (fun p => Nat.blt p C.n) = true) (hM : pickT m t is = some (box :: Mf 0)) (hf : freshT t is = true)
    (hasg : ∀ l k W, k < N → Below C.base C.w0 W → Ex ⟨C.P, C.n, C.base, W, some l, []⟩ asg (zipR ps (encs k) env) (box :: Mf k) (fun e env' m' => e = .normal ∧ Agree (E1 k) env' ∧ m' = box :: Mf k))
    (hbd : ∀ l k W, k < N → Below C.base C.w0 W → Ex ⟨C.P, C.n, C.base, W, some l, []⟩ bd (E1 k) (box :: Mf k) (fun e env' m' => e = .normal ∧ ∃ t is, pickT m' t is = some (box :: Mf (k + 1)) ∧ freshT t is = true))
    (hB : ∀ D W, Below C.base C.w0 W → Ex ⟨C.P, C.n, C.base, W, none, [mark D]⟩ B env (box :: Mf N) (fun e env' m' => e = .ret ∧ Q e env' m')) :
    ExT C (.block id (.rangeFunc g ps.toArray asg bd)) B env m Q := by
  obtain ⟨P, n, base, w0, rd, ds⟩ := C
  simp only at hrd hds hit hasg hbd hB hpn
  subst hrd hds
  unfold Ex at hasg hbd hB
  intro a w hr hh
  simp only at hr hh
  refine wpIn_block (wpIn_rangeFunc ?_)
  intro fn _
  obtain ⟨rec, hrec⟩ : ∃ rec : LoopState → Option Code → Loop, rec = fun st pe => { state := st, pending := pe, fn, tmps := a.tmps, params := ps.toArray, assign := asg, body := bd, defers := w.heap.size } := ⟨_, rfl⟩
  obtain ⟨W1, hW1⟩ : ∃ W1, (w.alloc (.deferred (some []))).alloc (.loop (rec .ready none)) = W1 := ⟨_, rfl⟩
  have hL1 : W1.heap[w.heap.size + 1]? = some (.loop (rec .ready none)) := by
    rw [← hW1]; have := World.alloc_heap_new (w.alloc (.deferred (some []))) (.loop (rec .ready none)); rwa [World.size_alloc] at this
  have hK1 : W1.heap[w.heap.size]? = some (.deferred (some [])) := by
    rw [← hW1]; exact (Below.heap_alloc _ _ _ (by simp)).trans (World.alloc_heap_new w _)
  have hg1 : w.grownBy W1 none := by rw [← hW1]; exact grown_of_below (((below_alloc' w _).trans ((below_alloc' _ _).mono (by simp)))) none
  have hb1 : Below base w W1 := by rw [← hW1]; exact (((below_alloc' w _).trans ((below_alloc' _ _).mono (by simp)))).mono hh.wle
  have hB1 : Below base w0 W1 := hh.below.trans hb1
  have hH1 : Holds base W1 (box :: Mf 0) W1 := (hh.pickT hM hf).fresh hg1
  have ho1 : KeepsOthers w W1 := KeepsOthers.of_grownBy hg1 (fun _ _ e => nomatch e)
  have hsz : w.heap.size + 1 < W1.heap.size := (Array.getElem?_eq_some_iff.1 hL1).1
  have hwle := hh.wle
  refine ⟨w.heap.size + 1, [mark w.heap.size], W1, { target := .fn (.func gf) lb.toArray, args := #[.func (.yield (w.heap.size + 1)) #[] #[]] }, W1, gf,
    #[.func (.yield (w.heap.size + 1)) #[] #[]] ++ lb.toArray, W1, ?_, ?_, fun _ _ => trivial, ?_, noDepth, ?_⟩
  · rw [← hW1, hrec]; exact run_enterLoop_outer _ _ _ _ _
  · simp only [resolve, hr.ev hg]
    simp [go_sem]
  · simp [invoke, go_sem, hit.1 _]
  · refine callsFc _ _ ?_
    have hcall := hit.2 W1 (w.heap.size + 1) Mf W1 hB1 ?_ hH1
    · rw [show #[Value.func (.yield (w.heap.size + 1)) #[] #[]] ++ lb.toArray = (Value.func (.yield (w.heap.size + 1)) #[] #[] :: lb).toArray by simp]
      refine hcall.mono ?_
      rintro e W2 ⟨⟨v, rfl⟩, hH2⟩
      have hl2 : W2.heap[w.heap.size + 1]? = some (.loop (rec .ready none)) := hH2.others.same _ _ hL1 rfl
      have hk2 : W2.heap[w.heap.size]? = some (.deferred (some [])) := hH2.others.same _ _ hK1 rfl
      have hend := run_endLoop (P := P) hl2 (by rw [hrec]; simp)
      have hp0 : (rec .ready none).pending = none := by rw [hrec]
      refine ⟨none, _, hend.trans (congrArg (fun p => Result.ok p _) hp0), ?_⟩
      have hk3 : (W2.putObj (w.heap.size + 1) (.loop { rec .ready none with state := .exhausted })).heap[w.heap.size]? = some (.deferred (some [])) := (World.putObj_heap_other (by omega)).trans hk2
      have hb3 : Below base W2 (W2.putObj (w.heap.size + 1) (.loop { rec .ready none with state := .exhausted })) := below_put _ hH2.wle (by omega)
      have hr3 : Rep n [mark w.heap.size] env { a with defers := [mark w.heap.size] ++ a.defers } := ⟨by rw [hr.def0]; rfl, hr.size, hr.at_⟩
      have h3 := hB w.heap.size _ (hB1.trans (hH2.below.trans hb3)) _ _ hr3 (hH2.freshPut hl2 rfl)
      refine wpIn_mono h3 ?_
      rintro e a4 W4 ⟨ho, env4, m4, ds4, hr4, hh4, ⟨rfl, hq⟩, hd4⟩
      have hd5 : ds4 = [mark w.heap.size] := by
        rcases hd4 with h | ⟨_, h, _⟩
        · exact h
        · cases h
      refine ⟨rfl, env4, m4, ds4, hr4, ⟨(hB1.trans (hH2.below.trans hb3)).trans hh4.below, hh.le, hh4.all, hh4.apart, ?_⟩, hq, .inr ⟨rfl, rfl, _, hd5, hh.below.size, hh4.others.same _ _ hk3 rfl⟩⟩
      refine KeepsOthers.trans ⟨?_, fun k o hk ho => ?_⟩ hh4.others
      · have h1 := hh.below.size; have h2 := hH2.below.size; simp; omega
      · have hk0 : k < w0.heap.size := (Array.getElem?_eq_some_iff.1 hk).1
        have h1 := hh.below.size
        exact (World.putObj_heap_other (by omega)).trans (hH2.others.same _ _ (ho1.same _ _ (hh.others.same _ _ hk ho) ho) ho)
    · intro k W hk hH
      have hl : W.heap[w.heap.size + 1]? = some (.loop (rec .ready none)) := hH.others.same _ _ hL1 rfl
      have hy := run_yield (P := P) (args := (encs k).toArray) hl (by rw [hrec]; simp [hps k])
      rw [hrec] at hy
      refine ⟨fn, _, asg, bd, hy, roundIn_of_wpIn trivial ?_⟩
      have hBW := hB1.trans hH.below
      have hrz : Rep n [] (zipR ps (encs k) env) { tmps := (ps.toArray.zip (encs k).toArray).foldl (fun tmps (t, a) => tmps.setIfInBounds t a) a.tmps, defers := [] } := by
        have := rep_zip (vs := encs k) (env := env) (tm := a.tmps) (ds := []) hpn ⟨rfl, hr.size, hr.at_⟩
        simpa using this
      have h1 := hasg (w.heap.size + 1) k W hk hBW _ W hrz hH.fresh0
      refine wpIn_mono h1 ?_
      rintro e a1 Wa ⟨_, env1, m1, ds1, hr1, hh1, ⟨rfl, hA, rfl⟩, hd1⟩
      have hds1 : ds1 = [] := hd1.same (fun e => nomatch e)
      subst hds1
      have hla : Wa.heap[w.heap.size + 1]? = some (.loop (rec .ready none)) := hh1.others.same _ _ hl rfl
      have hlt : w.heap.size + 1 < Wa.heap.size := (Array.getElem?_eq_some_iff.1 hla).1
      refine ⟨_, run_beginRound hla (by rw [hrec]), ?_⟩
      have hbb : Below base Wa (Wa.putObj (w.heap.size + 1) (.loop { rec .ready none with state := .busy })) := below_put _ hh1.wle (by omega)
      have h2 := hbd (w.heap.size + 1) k _ hk ((hBW.trans hh1.below).trans hbb) a1 _ (hr1.agree hA) (hh1.freshPut hla rfl)
      refine wpIn_mono h2 ?_
      rintro e a2 Wc ⟨_, env2, m2, ds2, hr2, hh2, ⟨rfl, t2, is2, hp2, hf2⟩, hd2⟩
      have hlc : Wc.heap[w.heap.size + 1]? = some (.loop { rec .ready none with state := .busy }) := hh2.others.same _ _ (World.putObj_heap_same hlt) rfl
      have her := run_endRound (P := P) none hlc
      refine ⟨_, _, her, rfl, ?_⟩
      have hpk := hh2.pickT hp2 hf2
      have hbc : Below base Wc (Wc.putObj (w.heap.size + 1) (.loop { { rec .ready none with state := .busy } with state := if (none : Option Code).isNone then .ready else .done, pending := none })) := below_put _ hh2.wle (by omega)
      refine ⟨(((hH.below.trans hh1.below).trans hbb).trans hh2.below).trans hbc, hH.le, fun e he => (hpk.all e he).put hlc rfl rfl, hpk.apart, ⟨?_, fun j o hj ho => ?_⟩⟩
      · have h1 := hH.below.size
        have h2 : W.heap.size ≤ Wa.heap.size := hh1.below.size
        have h3 : (Wa.putObj (w.heap.size + 1) (.loop { rec .ready none with state := .busy })).heap.size ≤ Wc.heap.size := hh2.below.size
        rw [World.putObj_size] at h3 ⊢
        omega
      · by_cases hj2 : j = w.heap.size + 1
        · subst hj2
          rw [hL1] at hj
          cases hj
          have := World.putObj_heap_same (w := Wc) (o := .loop { { rec .ready none with state := .busy } with state := if (none : Option Code).isNone then .ready else .done, pending := none }) (Array.getElem?_eq_some_iff.1 hlc).1
          rw [this, hrec]; rfl
        · exact (World.putObj_heap_other hj2).trans (hh2.others.same _ _ ((World.putObj_heap_other hj2).trans (hh1.others.same _ _ (hH.others.same _ _ hj ho) ho)) ho)
end Go.Sx
namespace Go.Sx
open Go Go.RowKit
variable {C : Cx} {env env' : Env} {m m' : List Ent} {Q Q' : Post}
/-- 'rangeF' as it is met: what a round sees (V), what stays (Kp, Mk), what it turns (M). -/
theorem Ex.rangeK {g : Operand} {ps : List Nat} {asg bd B : Code} {id gf N : Nat} {lb : List Value} {encs : Nat → List Value} {box : Ent} (V : Nat → Env) (M : Nat → List Ent) (Kp : Env) (Mk : List Ent) (t : Nat) (is : List Nat)
    (hg : ev env g = some (.func (.func gf) #[] (List.toArray lb))) (hit : Iter C.P gf lb C.base C.w0 box N encs) (hps : ∀ k, (encs k).length = ps.length) (hrd : C.rd = none) (hds : C.ds = []) (hpn : ps.all (fun p => Nat.blt p C.n) = true) (hM : pickT m t is = some (box :: (M 0 ++ Mk))) (hf : freshT t is = true) (hK : Agree Kp env)
    (hasg : ∀ l k W, k < N → Below C.base C.w0 W → Ex ⟨C.P, C.n, C.base, W, some l, []⟩ asg (zipR ps (encs k) env) (box :: (M k ++ Mk)) (fun e env' m' => e = .normal ∧ Agree (V k ++ Kp) env' ∧ m' = box :: (M k ++ Mk)))
    (hbd : ∀ l k W, k < N → Below C.base C.w0 W → Ex ⟨C.P, C.n, C.base, W, some l, []⟩ bd (V k ++ Kp) (box :: (M k ++ Mk)) (fun e env' m' => e = .normal ∧ ∃ t is, pickT m' t is = some (box :: (M (k + 1) ++ Mk)) ∧ freshT t is = true))
    (hB : ∀ D W, Below C.base C.w0 W → Ex ⟨C.P, C.n, C.base, W, none, [mark D]⟩ B env (box :: (M N ++ Mk)) (fun e env' m' => e = .ret ∧ Q e env' m')) :
    ExT C (.block id (.rangeFunc g ps.toArray asg bd)) B env m Q :=
  Ex.rangeF (Mf := fun k => M k ++ Mk) t is (fun k => V k ++ Kp) hrd hds hg hit hps hpn hM hf hasg hbd hB
/-- A field of a record that was handed over, or of a block of one's own. -/
theorem RdB.below {base : Nat} {w w' : World} {A : Option Addr} {cs : List Value} (h : RdB base w A cs) (hb : Below base w w') : RdB base w' A cs := h.keep hb
end Go.Sx
namespace Go.Sx
open Go Go.RowKit
variable {C : Cx} {env env' : Env} {m m' : List Ent} {Q Q' : Post}
theorem Iter.of {P : Program} {gf fn c n} {lb : List Value} {base : Nat} {w0 : World} {box : Ent} {N : Nat} {encs : Nat → List Value} (hE : Enters P gf) (hf : P.funcs[gf]? = some fn) (hb : fn.body = some c) (hn : fn.ntmps = n) (hrs : fn.results = List.toArray []) (hv : Nat.ble (lb.length + 1) n = true)
    (h : ∀ w1 l Mf, Below base w0 w1 → Yields P l base w1 box Mf N encs → Ex ⟨P, n, base, w1, none, []⟩ c (argsAt 0 (.func (.yield l) #[] #[] :: lb)) (box :: Mf 0) (fun e env m => isEnd e = true ∧ m = box :: Mf N)) : Iter P gf lb base w0 box N encs := by
  refine ⟨hE, fun w1 l Mf W hW hY hH => fcCalls (rd := none) (n := 0) (callsIn_of_wp_marks hf hb trivial ?_)⟩
  subst hn
  refine wpIn_mono (h w1 l Mf hW hY _ W (rep_start (Nat.le_of_ble_eq_true (by simpa using hv))) hH) ?_
  rintro e a w' ⟨ho, env, m, ds, hr, hh, ⟨hend, rfl⟩, hd⟩
  refine bodyOf (e := e) hd hr hh (by cases e <;> simp_all [isEnd]) (fun w'' hh => ?_)
  have hrun := run_results (fn := fn) (rs := []) (vs := []) hrs trivial hr hh
  exact ⟨_, hrun, ⟨_, rfl⟩, hh⟩
theorem pick_box {e : Ent} {M : List Ent} : pickT (e :: M) 1 [0] = some ((e :: M) ++ []) := by simp [pickT, pickE]
end Go.Sx
namespace Go.Sx
open Go Go.RowKit
variable {C : Cx} {env env' : Env} {m m' : List Ent} {Q Q' : Post}
theorem Ex.drawSeqI {id : Nat} {l : List Oper} {y : Code} (is : List Nat) {S : List Ent} (_ : pickE m is = some S) (hm : C.P.follows .mixedOrders = true) (h : ExD C l S l.length [] env m (fun env m => Ex C y env m Q)) (hrd : regOk C.rd l = true := by rfl) : Ex C (.seq (.region id l.toArray true) y) env m Q := Ex.drawSeq S hm h hrd
theorem Ex.drawI {id : Nat} {l : List Oper} (is : List Nat) {S : List Ent} (_ : pickE m is = some S) (hm : C.P.follows .mixedOrders = true) (h : ExD C l S l.length [] env m (fun env m => Q .normal env m)) (hrd : regOk C.rd l = true := by rfl) : Ex C (.region id l.toArray true) env m Q := Ex.draw S hm h hrd
end Go.Sx
namespace Go.Sx
open Go Go.RowKit
variable {C : Cx} {env : Env} {m : List Ent} {o : Oper}
theorem fr_quoW {T x y T' k p q} (z : Int) (ho : o.op = .binOp .quo T x y T') (hx : ev env x = some (.int k p)) (hy : ev env y = some (.int k q)) (hq : q ≠ 0) (hz : k.wrap (p.tdiv q) = z) : Free C o env m (.int k z) := by
  have := fr_quo (C := C) (m := m) ho hx hy hq
  rwa [hz] at this
end Go.Sx
namespace Go.Sx
open Go Go.RowKit
variable {C : Cx} {env env' : Env} {m m' : List Ent} {o : Oper} {α : Type} {f : α → List Value} {sz : Nat} {xs : List α} {A : Option Addr}
theorem cellJ {i : Int} (j : Nat) {v} (H : Reads C m A (xs.flatMap f)) (hf : ∀ x, (f x).length = sz) (d : α) (k : Nat) (hk : Nat.blt k sz = true) (hi : i = (j : Int)) (hj : j < xs.length) (hv : (f (xs.getD j d))[k]? = some v) : CellO C m (offA A (i.toNat * sz + k)) v := by
  subst hi; exact cellN H hf d k hk hj hv
end Go.Sx
namespace Go.Sx
open Go Go.RowKit
variable {C : Cx} {env env' : Env} {m m' : List Ent} {o : Oper} {α : Type} {f : α → List Value} {sz : Nat} {xs : List α} {A : Option Addr}
end Go.Sx
namespace Go.Sx
open Go Go.RowKit
variable {C : Cx} {env : Env} {m : List Ent} {o : Oper}
theorem fr_neg64 {T x p} (ho : o.op = .unOp .neg T x) (hx : ev env x = some (.int .i64 p)) (h : -9223372036854775807 ≤ p ∧ p ≤ 9223372036854775807) : Free C o env m (.int .i64 (-p)) := by
  have := fr_neg (C := C) (m := m) ho hx
  rwa [wrap_i64 (by omega) (by omega)] at this
end Go.Sx
namespace Go.Sx
theorem perm_lt {m : List Ent} {i j : Nat} {a b : Ent} (hi : m[i]? = some a) (hj : m[j]? = some b) (hne : Nat.blt i j = true) : m.Perm ([a, b] ++ (m.eraseIdx i).eraseIdx (j - 1)) := by
  have hlt : i < j := by simpa using hne
  refine (perm_at hi).trans (List.Perm.cons a (perm_at (m := m.eraseIdx i) ?_))
  rw [List.getElem?_eraseIdx, if_neg (by omega), show j - 1 + 1 = j by omega]; exact hj
theorem perm_gt {m : List Ent} {i j : Nat} {a b : Ent} (hi : m[i]? = some a) (hj : m[j]? = some b) (hne : Nat.blt j i = true) : m.Perm ([a, b] ++ (m.eraseIdx i).eraseIdx j) := by
  have hlt : j < i := by simpa using hne
  refine (perm_at hi).trans (List.Perm.cons a (perm_at (m := m.eraseIdx i) ?_))
  rw [List.getElem?_eraseIdx, if_pos (by omega)]; exact hj
end Go.Sx
namespace Go.Sx
open Go Go.RowKit
variable {C : Cx} {env env' : Env} {m m' : List Ent} {l : List Oper} {o : Oper} {K : Env → List Ent → Prop}
theorem lst_two (n i j : Nat) (done : List Nat) (hne : i ≠ j) : lst n (i :: j :: done) = lst n (j :: i :: done) := by
  simp only [lst, List.foldr_cons]
  exact Array.setIfInBounds_comm _ _ (Ne.symm hne)
/-- Two readings of which either may come first. -/
theorem ExD.two {S : List Ent} {fuel : Nat} {done : List Nat} {i j : Nat} {oi oj : Oper} {vi vj : Value} {di dj : Nat} (hi : l[i]? = some oi) (hj : l[j]? = some oj) (h2 : readyOk l done [i, j] = true) (h3 : nextOk l (i :: done) j = true) (h4 : nextOk l (j :: done) i = true) (hne : Nat.blt i j = true) (hS : S.Sublist m)
    (hgi : wantB l env oi = some true) (hgj : wantB l env oj = some true) (hgi' : wantB l ((dj, vj) :: env) oi = some true) (hgj' : wantB l ((di, vi) :: env) oj = some true) (hdi : oi.dst = some di) (hdj : oj.dst = some dj) (hli : Nat.blt di C.n = true) (hlj : Nat.blt dj C.n = true) (hdd : Nat.beq di dj = false)
    (fi : Free C oi env m vi) (fj : Free C oj env m vj) (fi' : Free C oi ((dj, vj) :: env) m vi) (fj' : Free C oj ((di, vi) :: env) m vj)
    (h : ExD C l S fuel (j :: i :: done) ((dj, vj) :: (di, vi) :: env) m K) : ExD C l S (fuel + 1 + 1) done env m K := by
  have hij : i ≠ j := by have : i < j := by simpa using hne
                         omega
  have hd : di ≠ dj := fun e => by subst e; simp at hdd
  refine ExD.ops h2 (by simp) fun k hk => ?_
  rcases List.mem_cons.1 hk with rfl | hk
  · refine ⟨oi, hi, hgi, Op1.of_free fi hdi hli ⟨hS, ?_⟩⟩
    exact ExD.op hj h3 hgj' (Op1.of_free fj' hdj hlj ⟨hS, h⟩)
  · obtain rfl : k = j := by simpa using hk
    refine ⟨oj, hj, hgj, Op1.of_free fj hdj hlj ⟨hS, ?_⟩⟩
    refine ExD.op hi h4 hgi' (Op1.of_free fi' hdi hli ⟨hS, ?_⟩)
    unfold ExD at h ⊢
    rw [lst_two l.length i k done hij]
    intro a w hr hh
    refine h a w ⟨hr.def0, hr.size, fun t v ht => hr.at_ t v ?_⟩ hh
    simp only [look] at ht ⊢
    cases e1 : Nat.beq dj t with
    | true =>
      have e := Nat.eq_of_beq_eq_true e1
      subst e
      simp only [hdd, e1, cond_true, cond_false] at ht ⊢; exact ht
    | false =>
      rw [e1] at ht
      cases e2 : Nat.beq di t with
      | true => simp only [e2, e1, cond_true, cond_false] at ht ⊢; exact ht
      | false => simp only [e2, e1, cond_true, cond_false] at ht ⊢; exact ht
end Go.Sx
namespace Go.Sx
open Go Go.RowKit
variable {C : Cx} {env : Env} {m : List Ent} {o : Oper}
/-- An element of a row of one's own. -/
theorem fr_indexAddrR (j : Nat) {S x y E E' k sz sz'} {A : Option Addr} {n c : Nat} {xs : List Value} {i : Int} (hm : m[j]? = some (.row (.slice A n c) E' sz' n xs)) (ho : o.op = .indexAddr S x y) (hx : ev env x = some (.slice A n c)) (hy : ev env y = some (.int k i)) (hS : C.P.underlying S = some (.slice E)) (hs : (C.P.info? E).map (·.size) = some sz) (hi : 0 ≤ i ∧ i < n) : Free C o env m (.pointer (offA A (i.toNat * sz))) := by
  have key := fun hA => fr_indexAddr (C := C) (m := m) (o := o) ho hx hy hS hs hA hi
  unfold Free at key ⊢
  exact fun a w hr hw => key ((row_some hm w hw).2.2.2 (by omega)) a w hr hw
end Go.Sx

/- What a value that came in looks like: its cells, one by one. -/
set_option linter.unusedVariables false
set_option linter.unusedSimpArgs false
namespace Go.Sx
open Go Go.RowKit Go.WideShapes
/-- These cells can be read as one of type t. -/
def Cl (P : Program) (W : World) (t : TypeId) (cs : List Value) : Prop :=
  ∃ (H : Type) (enc : TypeId × Value → H) (fuel : Nat) (d : DataW H) (ps : List MemPlace), DataW.trod enc P W 0 (fun _ => true) true fuel t cs = some (d, ps)
variable {P : Program} {W : World} {t e : TypeId} {cs : List Value}
theorem Cl.int {k : IntKind} (ht : P.underlying t = some (.int k)) (h : Cl P W t cs) : ∃ n, cs = [.int k n] ∧ (Lit.int k n).wf = true := by
  obtain ⟨H, enc, fuel, d, ps, h⟩ := h
  cases fuel with
  | zero => simp [DataW.trod] at h
  | succ fuel =>
    simp only [DataW.trod, ht] at h
    split at h <;> first | (cases h; done) | skip
    all_goals simp_all
theorem Cl.bool (ht : P.underlying t = some .bool) (h : Cl P W t cs) : ∃ b, cs = [.bool b] := by
  obtain ⟨H, enc, fuel, d, ps, h⟩ := h
  cases fuel with
  | zero => simp [DataW.trod] at h
  | succ fuel =>
    simp only [DataW.trod, ht] at h
    split at h <;> first | (cases h; done) | skip
    all_goals simp_all
theorem Cl.string (ht : P.underlying t = some .string) (h : Cl P W t cs) : ∃ s, cs = [.string s] ∧ s.size ≤ maxLen := by
  obtain ⟨H, enc, fuel, d, ps, h⟩ := h
  cases fuel with
  | zero => simp [DataW.trod] at h
  | succ fuel =>
    simp only [DataW.trod, ht] at h
    split at h <;> first | (cases h; done) | skip
    all_goals simp_all
theorem mapM_some {α β : Type} {f : α → Option β} : ∀ {l : List α} {r : List β}, l.mapM f = some r → ∀ x ∈ l, ∃ y, f x = some y
  | [], r, h, x, hx => by simp at hx
  | a :: l, r, h, x, hx => by
    rw [List.mapM_cons] at h
    cases ha : f a with
    | none => simp [ha] at h
    | some y =>
      cases hl : l.mapM f with
      | none => simp [ha, hl] at h
      | some ys =>
        rcases List.mem_cons.1 hx with rfl | hx
        · exact ⟨y, ha⟩
        · exact mapM_some hl x hx
theorem Cl.struct {fs : Array Field} (ht : P.underlying t = some (.struct fs)) (h : Cl P W t cs) : cs.length = P.cellsOf t ∧ ∀ f ∈ fs.toList, Cl P W f.type ((cs.drop f.offset).take (P.cellsOf f.type)) := by
  obtain ⟨H, enc, fuel, d, ps, h⟩ := h
  cases fuel with
  | zero => simp [DataW.trod] at h
  | succ fuel =>
    simp only [DataW.trod, ht] at h
    by_cases hc : cs.length = P.cellsOf t
    · rw [if_pos hc] at h
      refine ⟨hc, fun f hf => ?_⟩
      cases hm : (fs.toList.mapM fun f => DataW.trod enc P W 0 (fun _ => true) true fuel f.type ((cs.drop f.offset).take (P.cellsOf f.type))) with
      | none => rw [hm] at h; cases h
      | some xs =>
        obtain ⟨⟨d', p'⟩, hy⟩ := mapM_some hm f hf
        exact ⟨H, enc, fuel, d', p', hy⟩
    · rw [if_neg hc] at h; cases h
theorem Cl.array {n : Nat} (ht : P.underlying t = some (.array n e)) (h : Cl P W t cs) : cs.length = P.cellsOf t ∧ ∀ i, i < n → Cl P W e ((cs.drop (i * P.cellsOf e)).take (P.cellsOf e)) := by
  obtain ⟨H, enc, fuel, d, ps, h⟩ := h
  cases fuel with
  | zero => simp [DataW.trod] at h
  | succ fuel =>
    simp only [DataW.trod, ht] at h
    by_cases hc : cs.length = P.cellsOf t
    · rw [if_pos hc] at h
      refine ⟨hc, fun i hi => ?_⟩
      cases hm : ((List.range n).mapM fun i => DataW.trod enc P W 0 (fun _ => true) true fuel e ((cs.drop (i * P.cellsOf e)).take (P.cellsOf e))) with
      | none => rw [hm] at h; cases h
      | some xs =>
        obtain ⟨⟨d', p'⟩, hy⟩ := mapM_some hm i (by simpa using hi)
        exact ⟨H, enc, fuel, d', p', hy⟩
    · rw [if_neg hc] at h; cases h
theorem mapM_get {α β : Type} {f : α → Option β} : ∀ {l : List α} {r : List β}, l.mapM f = some r → r.length = l.length ∧ ∀ (i : Nat) (x : α), l[i]? = some x → ∃ y, f x = some y ∧ r[i]? = some y
  | [], r, h => by simp at h; subst h; simp
  | a :: l, r, h => by
    rw [List.mapM_cons] at h
    cases ha : f a with
    | none => simp [ha] at h
    | some y =>
      cases hl : l.mapM f with
      | none => simp [ha, hl] at h
      | some ys =>
        simp only [ha, hl, Option.pure_def, Option.bind_eq_bind, Option.bind_some, Option.some.injEq] at h
        subst h
        obtain ⟨h1, h2⟩ := mapM_get hl
        refine ⟨by simp [h1], fun i x hx => ?_⟩
        cases i with
        | zero => simp at hx; subst hx; exact ⟨y, ha, rfl⟩
        | succ i => exact h2 i x (by simpa using hx)
theorem cells_get {w : World} {a : Addr} {n : Nat} {cs : List Value} (h : w.cells? 0 a n = some cs) : cs.length = n ∧ ∀ (i : Nat) (u : Value), cs[i]? = some u → w.cell? (a.add i) = some u := by
  simp only [World.cells?, Nat.zero_le, if_true] at h
  obtain ⟨h1, h2⟩ := mapM_get h
  rw [List.length_range] at h1
  refine ⟨h1, fun i u hu => ?_⟩
  have hi : i < n := by rw [← h1]; exact (List.getElem?_eq_some_iff.1 hu).1
  obtain ⟨y, hy, hr⟩ := h2 i i (List.getElem?_range hi)
  rw [hu] at hr
  cases hr
  exact hy
theorem Cl.slice (ht : P.underlying t = some (.slice e)) (hp : 0 < P.cellsOf e) (h : Cl P W t cs) : ∃ A n c, cs = [.slice A n c] ∧ n ≤ maxLen ∧ ∃ els : List (List Value), els.length = n ∧ (∀ x ∈ els, x.length = P.cellsOf e ∧ Cl P W e x) ∧ Rd W A els.flatten := by
  obtain ⟨H, enc, fuel, d, ps, h⟩ := h
  cases fuel with
  | zero => simp [DataW.trod] at h
  | succ fuel =>
    simp only [DataW.trod, ht] at h
    split at h <;> first | (cases h; done) | skip
    all_goals first
      | (rename_i heq; cases heq; done)
      | skip
    · simp only [Option.some.injEq, TypeDesc.slice.injEq] at *
      subst_vars
      exact ⟨none, 0, 0, rfl, Nat.zero_le _, [], rfl, by simp, Rd.nil _ _⟩
    · rename_i e' a len cap heq
      simp only [Option.some.injEq, TypeDesc.slice.injEq] at heq
      subst heq
      split at h
      · rename_i hc
        refine ⟨some a, len, cap, rfl, by omega, ?_⟩
        cases hm : ((List.range len).mapM fun i => (W.cells? 0 (a.add (i * P.cellsOf e)) (P.cellsOf e)).bind (DataW.trod enc P W 0 (fun _ => true) true fuel e)) with
        | none => rw [hm] at h; cases h
        | some xs =>
          have hel : ∀ i, i < len → ∃ ci, W.cells? 0 (a.add (i * P.cellsOf e)) (P.cellsOf e) = some ci ∧ Cl P W e ci := fun i hi => by
            obtain ⟨⟨d', p'⟩, hy⟩ := mapM_some hm i (by simpa using hi)
            cases hci : W.cells? 0 (a.add (i * P.cellsOf e)) (P.cellsOf e) with
            | none => rw [hci] at hy; cases hy
            | some ci => rw [hci] at hy; exact ⟨ci, rfl, H, enc, fuel, d', p', hy⟩
          have hlen : ∀ i : Nat, ((W.cells? 0 (a.add (i * P.cellsOf e)) (P.cellsOf e)).getD (List.replicate (P.cellsOf e) undef)).length = P.cellsOf e := fun i => by
            cases hci : W.cells? 0 (a.add (i * P.cellsOf e)) (P.cellsOf e) with
            | none => simp
            | some ci => simpa using (cells_get hci).1
          refine ⟨(List.range len).map fun i => (W.cells? 0 (a.add (i * P.cellsOf e)) (P.cellsOf e)).getD (List.replicate (P.cellsOf e) undef), by simp, ?_, ?_⟩
          · intro x hx
            obtain ⟨i, hi, rfl⟩ := List.mem_map.1 hx
            obtain ⟨ci, h1, h2⟩ := hel i (by simpa using hi)
            refine ⟨hlen i, ?_⟩
            rw [h1]; exact h2
          · rw [← List.flatMap_def]
            intro j u hj
            refine ⟨a, rfl, ?_⟩
            have hjl : j < len * P.cellsOf e := by
              have := (List.getElem?_eq_some_iff.1 hj).1
              rw [flat_len hlen, List.length_range] at this
              exact this
            have h1 : j / P.cellsOf e < len := Nat.div_lt_of_lt_mul (by rw [Nat.mul_comm]; exact hjl)
            have h2 : j % P.cellsOf e < P.cellsOf e := Nat.mod_lt _ hp
            have h3 := flat_get hlen 0 (List.range len) (j / P.cellsOf e) (j % P.cellsOf e) (by simpa using h1) h2
            have h4 : j / P.cellsOf e * P.cellsOf e + j % P.cellsOf e = j := by rw [Nat.mul_comm]; exact Nat.div_add_mod j _
            rw [h4, hj] at h3
            have h5 : (List.range len).getD (j / P.cellsOf e) 0 = j / P.cellsOf e := by simp [List.getD, h1]
            rw [h5] at h3
            obtain ⟨ci, hci, _⟩ := hel _ h1
            rw [hci] at h3
            have := (cells_get hci).2 _ u h3.symm
            rwa [Addr.add_add, h4] at this
      · cases h
/-- Elements that each are one of f's are f's row. -/
theorem each {α : Type} {f : α → List Value} {p : α → Prop} : ∀ {els : List (List Value)}, (∀ x ∈ els, ∃ y, x = f y ∧ p y) → ∃ ys : List α, els.flatten = ys.flatMap f ∧ ys.length = els.length ∧ ∀ y ∈ ys, p y
  | [], _ => ⟨[], rfl, rfl, by simp⟩
  | x :: t, h => by
    obtain ⟨y, hy, hp⟩ := h x (by simp)
    obtain ⟨ys, h1, h2, h3⟩ := each (els := t) fun z hz => h z (by simp [hz])
    refine ⟨y :: ys, by rw [List.flatten_cons, List.flatMap_cons, ← h1, hy], by simp [h2], fun z hz => ?_⟩
    rcases List.mem_cons.1 hz with rfl | hz
    · exact hp
    · exact h3 z hz
/-- A value as its cells. -/
theorem cl_of {H : Type} {enc : TypeId × Value → H} {v : Value} {d : DataW H} {ps : List MemPlace} (h : DataW.Trod enc P W 0 (fun _ => true) true t v d ps) : Cl P W t v.cells.toList := by
  obtain ⟨fuel, h⟩ := h
  exact ⟨H, enc, fuel, d, ps, h⟩
end Go.Sx

/- Stacks and digits in plain numbers. -/
namespace Go.W
open Go.Sx
def size (s : List Int) : Int := s.foldl (fun n b => min (n * b) 1000000000001) 1
theorem size_snoc (s : List Int) (k : Nat) (h : k < s.length) : size (s.take (k + 1)) = min (size (s.take k) * s.getD k 0) 1000000000001 := by
  unfold size
  rw [List.take_succ_eq_append_getElem h, List.foldl_append]
  simp [List.getD, h]
theorem size_bd {s : List Int} (hs : Nums 255 s) (k : Nat) : 0 ≤ size (s.take k) ∧ size (s.take k) ≤ 1000000000001 := by
  induction k with
  | zero => simp [size]
  | succ k ih =>
    by_cases h : k < s.length
    · rw [size_snoc s k h]
      have := hs.at_ (by omega) k
      have : 0 ≤ size (s.take k) * s.getD k 0 := Int.mul_nonneg ih.1 this.1
      omega
    · rw [List.take_of_length_le (by omega)] at ih ⊢
      exact ih
theorem size_mul {s : List Int} (hs : Nums 255 s) (k : Nat) : 0 ≤ size (s.take k) * s.getD k 0 ∧ size (s.take k) * s.getD k 0 ≤ 255000000000255 := by
  have h1 := size_bd hs k
  have h2 := hs.at_ (by omega) k
  refine ⟨Int.mul_nonneg h1.1 h2.1, ?_⟩
  calc size (s.take k) * s.getD k 0 ≤ 1000000000001 * s.getD k 0 := Int.mul_le_mul_of_nonneg_right h1.2 h2.1
    _ ≤ 1000000000001 * 255 := Int.mul_le_mul_of_nonneg_left h2.2 (by omega)
    _ = 255000000000255 := by rfl
end Go.W
namespace Go.W
open Go.Sx
def validStack (s : List Int) : Bool := decide (1 ≤ s.length ∧ s.length ≤ 8 ∧ (∀ i, i < s.length → 2 ≤ s.getD i 0 ∧ s.getD i 0 ≤ 100) ∧ size s ≤ 1000000000000)
theorem vs_len {s : List Int} (h : ¬ (1 ≤ (s.length : Int) ∧ (s.length : Int) ≤ 8)) : false = validStack s := by
  unfold validStack; symm; rw [decide_eq_false_iff_not]; omega
theorem vs_base {s : List Int} {k : Nat} (hk : k < s.length) (h : ¬ (2 ≤ s.getD k 0 ∧ s.getD k 0 ≤ 100)) : false = validStack s := by
  unfold validStack; symm; rw [decide_eq_false_iff_not]; rintro ⟨_, _, h3, _⟩; exact h (h3 k hk)
theorem vs_size {s : List Int} (h : ¬ size s ≤ 1000000000000) : false = validStack s := by
  unfold validStack; symm; rw [decide_eq_false_iff_not]; omega
theorem vs_yes {s : List Int} (h : 1 ≤ (s.length : Int) ∧ (s.length : Int) ≤ 8) (h3 : ∀ i, i < s.length → 2 ≤ s.getD i 0 ∧ s.getD i 0 ≤ 100) (h4 : size s ≤ 1000000000000) : true = validStack s := by
  unfold validStack; symm; rw [decide_eq_true_iff]; exact ⟨by omega, by omega, h3, h4⟩
theorem all_snoc {p : Nat → Prop} {k : Nat} (h : ∀ i, i < k → p i) (hk : p k) : ∀ i, i < k + 1 → p i := fun i hi => by
  rcases Nat.lt_or_ge i k with h1 | h1
  · exact h i h1
  · rwa [show i = k by omega]
end Go.W
namespace Go.W
open Go.Sx
structure VAct where
  kind : Int
  n : Int
def encA (a : VAct) : List Value := [.int .i8 a.kind, .int .i64 a.n]
def zA : VAct := ⟨0, 0⟩
def validAct (a : VAct) : Bool := decide ((a.kind = 1 ∨ a.kind = 2) ∧ 0 ≤ a.n ∧ a.n ≤ 1000000000000 ∨ a.kind = 3 ∧ -1 ≤ a.n ∧ a.n ≤ 1000000000000 ∨ (a.kind = 4 ∨ a.kind = 5) ∧ a.n = 0)
theorem dec_t {p : Prop} [Decidable p] (h : p) : true = decide p := by simp [h]
theorem dec_f {p : Prop} [Decidable p] (h : ¬ p) : false = decide p := by simp [h]
end Go.W

/- Digits and devices in plain numbers. -/
namespace Go.W
open Go Go.Sx
structure Dig where
  d0 : Int
  d1 : Int
  d2 : Int
  d3 : Int
  d4 : Int
  d5 : Int
  d6 : Int
  d7 : Int
def Dig.l (a : Dig) : List Int := [a.d0, a.d1, a.d2, a.d3, a.d4, a.d5, a.d6, a.d7]
def encD (a : Dig) : List Value := a.l.flatMap (eI .u8)
def dig (s : List Int) : Dig := ⟨s.getD 0 0, s.getD 1 0, s.getD 2 0, s.getD 3 0, s.getD 4 0, s.getD 5 0, s.getD 6 0, s.getD 7 0⟩
theorem dig_l {s : List Int} (h : s.length = 8) : (dig s).l = s := by
  match s, h with
  | [_, _, _, _, _, _, _, _], _ => rfl
theorem dig_len (a : Dig) : a.l.length = 8 := rfl
theorem encD_dig {s : List Int} (h : s.length = 8) : encD (dig s) = s.flatMap (eI .u8) := by unfold encD; rw [dig_l h]
/-- Two lists of numbers, compared from the front. -/
theorem list_eq {s t : List Int} {k : Nat} (hl : s.length = t.length) (hk : ¬ k < s.length) (h : ∀ i, i < k → s.getD i 0 = t.getD i 0) : s = t := by
  refine List.ext_getElem hl fun i h1 h2 => ?_
  have := h i (by omega)
  simpa [List.getD, h1, h2] using this
theorem eq_yes {s t : List Int} {k : Nat} (hl : s.length = t.length) (hk : ¬ k < s.length) (h : ∀ i, i < k → s.getD i 0 = t.getD i 0) : true = decide (s = t) := by simp [list_eq hl hk h]
theorem eq_no {s t : List Int} (k : Nat) (h : ¬ s.getD k 0 = t.getD k 0) : false = decide (s = t) := by
  symm; rw [decide_eq_false_iff_not]; rintro rfl; exact h rfl
theorem eq_len {s t : List Int} (h : ¬ s.length = t.length) : false = decide (s = t) := by
  symm; rw [decide_eq_false_iff_not]; rintro rfl; exact h rfl
structure VDev where
  stack : List Int
  shows : Dig
  preset : Int
  stopped : Bool
  tickets : Int
def encV (A : Option Addr) (c : Nat) (d : VDev) : List Value := .slice A d.stack.length c :: (encD d.shows ++ [.int .i64 d.preset, .bool d.stopped, .int .i64 d.tickets])
def sameV (a b : VDev) : Bool := decide (a.stack = b.stack ∧ a.shows.l = b.shows.l ∧ a.preset = b.preset ∧ a.stopped = b.stopped ∧ a.tickets = b.tickets)
def I64 (n : Int) : Prop := -9223372036854775808 ≤ n ∧ n ≤ 9223372036854775807
def OkAct (a : VAct) : Prop := (-128 ≤ a.kind ∧ a.kind ≤ 127) ∧ I64 a.n
def OkDev (d : VDev) : Prop := d.stack.length ≤ maxLen ∧ Nums 255 d.stack ∧ Nums 255 d.shows.l ∧ I64 d.preset ∧ I64 d.tickets
theorem sameV_refl (a : VDev) : sameV a a = true := by simp [sameV]
end Go.W
namespace Go.W
open Go Go.Sx
def step (c b : Int) : Int := (c * 259 + b) % 65536
def goodAt (s l : List Int) (i : Nat) : Bool := if i < s.length then decide (l.getD i 0 < s.getD i 0) else decide (l.getD i 0 = 0)
def validDig (s l : List Int) : Bool := (List.range 8).all (goodAt s l)
theorem vd_no {s l : List Int} {k : Nat} (hk : k < 8) (h : goodAt s l k = false) : false = validDig s l := by
  symm; rw [← Bool.not_eq_true]; unfold validDig; rw [List.all_eq_true]; intro hall
  rw [hall k (by simp; omega)] at h; cases h
theorem good_lo {s l : List Int} {k : Nat} (h : k < s.length) (h1 : ¬ s.getD k 0 ≤ l.getD k 0) : goodAt s l k = true := by unfold goodAt; rw [if_pos h, decide_eq_true_iff]; omega
theorem good_hi {s l : List Int} {k : Nat} (h : ¬ k < s.length) (h1 : l.getD k 0 = 0) : goodAt s l k = true := by unfold goodAt; rw [if_neg h, decide_eq_true_iff]; exact h1
theorem bad_lo {s l : List Int} {k : Nat} (hk : k < 8) (h : k < s.length) (h1 : s.getD k 0 ≤ l.getD k 0) : false = validDig s l := by
  refine vd_no hk ?_
  unfold goodAt; rw [if_pos h, decide_eq_false_iff_not]; omega
theorem bad_hi {s l : List Int} {k : Nat} (hk : k < 8) (h : ¬ k < s.length) (h1 : ¬ l.getD k 0 = 0) : false = validDig s l := by
  refine vd_no hk ?_
  unfold goodAt; rw [if_neg h, decide_eq_false_iff_not]; exact h1
theorem good_all {s l : List Int} {k : Nat} (hk : ¬ k < 8) (h : ∀ i, i < k → goodAt s l i = true) : true = validDig s l := by
  symm; unfold validDig; rw [List.all_eq_true]; intro i hi; exact h i (by simp at hi; omega)
end Go.W
namespace Go.W
open Go Go.Sx
theorem getD_mem {α : Type} {s : List α} (d : α) {k : Nat} (h : k < s.length) : s.getD k d ∈ s := by
  simp only [List.getD, List.getElem?_eq_getElem h, Option.getD_some]; exact List.getElem_mem h
def idxF {α : Type} (p : α → Bool) (s : List α) : Int := match s.findIdx? p with
  | some i => i
  | none => -1
theorem idx_hit {α : Type} {p : α → Bool} {s : List α} {d : α} {k : Nat} (hk : k < s.length) (hall : ∀ i, i < k → p (s.getD i d) = false) (h : p (s.getD k d) = true) : idxF p s = k := by
  unfold idxF
  have : s.findIdx? p = some k := by
    rw [List.findIdx?_eq_some_iff_getElem]
    refine ⟨hk, by simpa [List.getD, hk] using h, fun j hj => ?_⟩
    have := hall j hj
    have hj' : j < s.length := by omega
    simpa [List.getD, hj'] using this
  rw [this]
theorem idx_none {α : Type} {p : α → Bool} {s : List α} {d : α} {k : Nat} (hk : s.length ≤ k) (hall : ∀ i, i < k → p (s.getD i d) = false) : idxF p s = -1 := by
  unfold idxF
  have : s.findIdx? p = none := by
    rw [List.findIdx?_eq_none_iff]
    intro x hx
    obtain ⟨i, hi, rfl⟩ := List.getElem_of_mem hx
    have := hall i (by omega)
    simpa [List.getD, hi] using this
  rw [this]
theorem any_idx {α : Type} {p : α → Bool} {s : List α} : s.any p = decide (0 ≤ idxF p s) := by
  unfold idxF
  cases h : s.findIdx? p with
  | none =>
    rw [List.findIdx?_eq_none_iff] at h
    have : s.any p = false := by rw [List.any_eq_false]; intro x hx; simp [h x hx]
    rw [this]; rfl
  | some i =>
    rw [List.findIdx?_eq_some_iff_getElem] at h
    obtain ⟨hi, hp, _⟩ := h
    have : s.any p = true := by rw [List.any_eq_true]; exact ⟨_, List.getElem_mem hi, hp⟩
    rw [this]; symm; rw [decide_eq_true_iff]; exact Int.natCast_nonneg _
theorem vs_any {s : List Int} (h : s.any (fun x => decide (x < 2 ∨ 100 < x)) = true) : false = validStack s := by
  rw [List.any_eq_true] at h
  obtain ⟨x, hx, hp⟩ := h
  obtain ⟨i, hi, rfl⟩ := List.getElem_of_mem hx
  refine vs_base (k := i) hi ?_
  rw [decide_eq_true_iff] at hp
  simp only [List.getD, List.getElem?_eq_getElem hi, Option.getD_some]
  omega
theorem vs_yes2 {s : List Int} (h : 1 ≤ (s.length : Int) ∧ (s.length : Int) ≤ 8) (h3 : s.any (fun x => decide (x < 2 ∨ 100 < x)) = false) (h4 : size s ≤ 1000000000000) : true = validStack s := by
  refine vs_yes h (fun i hi => ?_) h4
  rw [List.any_eq_false] at h3
  have := h3 _ (getD_mem 0 hi)
  rw [decide_eq_true_iff] at this
  omega
end Go.W
namespace Go.W
open Go Go.Sx
end Go.W

/- Values, digits of a value, what a device does: in plain numbers. -/
set_option linter.unusedVariables false
set_option linter.unusedSimpArgs false
namespace Go.W
open Go Go.Sx
def prod : List Int → Int
  | [] => 1
  | b :: s => b * prod s
def val : List Int → List Int → Int
  | [], _ => 0
  | b :: s, l => l.headD 0 + b * val s l.tail
theorem prod_append (s t : List Int) : prod (s ++ t) = prod s * prod t := by
  induction s with
  | nil => simp [prod]
  | cons b s ih => simp only [List.cons_append, prod, ih, Int.mul_assoc]
theorem prod_take {s : List Int} {k : Nat} (h : k < s.length) : prod (s.take (k + 1)) = prod (s.take k) * s.getD k 0 := by
  rw [List.take_succ_eq_append_getElem h, prod_append]
  simp [prod, List.getD, h]
theorem drop_cons {s : List Int} {k : Nat} (h : k < s.length) : s.drop k = s.getD k 0 :: s.drop (k + 1) := by
  rw [List.drop_eq_getElem_cons h]; simp [List.getD, h]
theorem prod_drop {s : List Int} {k : Nat} (h : k < s.length) : prod (s.drop k) = s.getD k 0 * prod (s.drop (k + 1)) := by rw [drop_cons h]; rfl
theorem prod_split (s : List Int) (k : Nat) : prod s = prod (s.take k) * prod (s.drop k) := by rw [← prod_append, List.take_append_drop]
theorem val_drop {s l : List Int} {k : Nat} (h : k < s.length) (hl : k < l.length) : val (s.drop k) (l.drop k) = l.getD k 0 + s.getD k 0 * val (s.drop (k + 1)) (l.drop (k + 1)) := by
  rw [drop_cons h, drop_cons hl]; rfl
theorem val_end {s l : List Int} {k : Nat} (h : s.length ≤ k) : val (s.drop k) (l.drop k) = 0 := by rw [List.drop_of_length_le h]; rfl
/-- The bases of a stack that is valid. -/
def Bases (s : List Int) : Prop := ∀ i, i < s.length → 2 ≤ s.getD i 0 ∧ s.getD i 0 ≤ 100
theorem Bases.tail {b : Int} {s : List Int} (h : Bases (b :: s)) : Bases s := fun i hi => by have := h (i + 1) (by simp; omega); simpa using this
theorem Bases.head {b : Int} {s : List Int} (h : Bases (b :: s)) : 2 ≤ b ∧ b ≤ 100 := by have := h 0 (by simp); simpa using this
theorem Bases.drop {s : List Int} (h : Bases s) (k : Nat) : Bases (s.drop k) := fun i hi => by
  have hi' : k + i < s.length := by simp at hi; omega
  have := h (k + i) hi'
  simpa [List.getD, List.getElem?_drop] using this
theorem Bases.take {s : List Int} (h : Bases s) (k : Nat) : Bases (s.take k) := fun i hi => by
  have hi' : i < s.length := by simp at hi; omega
  have h2 : i < k := by simp at hi; omega
  have := h i hi'
  simpa [List.getD, List.getElem?_take, h2] using this
theorem prod_pos : ∀ {s : List Int}, Bases s → 1 ≤ prod s
  | [], _ => by simp [prod]
  | b :: s, h => by
    have h1 := h.head
    have h2 := prod_pos h.tail
    have h3 : 2 * 1 ≤ b * prod s := Int.mul_le_mul h1.1 h2 (by omega) (by omega)
    simp only [prod]; omega
theorem prod_drop_le {s : List Int} (h : Bases s) (k : Nat) : prod (s.drop k) ≤ prod s := by
  have h1 := prod_pos (h.take k)
  have h2 := prod_pos (h.drop k)
  rw [prod_split s k]
  have h3 : 1 * prod (s.drop k) ≤ prod (s.take k) * prod (s.drop k) := Int.mul_le_mul_of_nonneg_right h1 (by omega)
  omega
theorem prod_take_le {s : List Int} (h : Bases s) (k : Nat) : prod (s.take k) ≤ prod s := by
  have h1 := prod_pos (h.take k)
  have h2 := prod_pos (h.drop k)
  rw [prod_split s k]
  have h3 : prod (s.take k) * 1 ≤ prod (s.take k) * prod (s.drop k) := Int.mul_le_mul_of_nonneg_left h2 (by omega)
  omega
theorem size_prod {s : List Int} (h : Bases s) : size s = min (prod s) 1000000000001 := by
  have key : ∀ k, k ≤ s.length → size (s.take k) = min (prod (s.take k)) 1000000000001 := by
    intro k
    induction k with
    | zero => intro _; simp [size, prod]; rfl
    | succ k ih =>
      intro hk
      rw [size_snoc s k (by omega), prod_take (by omega), ih (by omega)]
      have hb := h k (by omega)
      have hp := prod_pos (h.take k)
      rcases Int.le_total (prod (s.take k)) 1000000000001 with h1 | h1
      · rw [Int.min_eq_left h1]
      · rw [Int.min_eq_right h1]
        have h3 : 1000000000001 * 1 ≤ 1000000000001 * s.getD k 0 := Int.mul_le_mul_of_nonneg_left (by omega) (by omega)
        have h4 : prod (s.take k) * 1 ≤ prod (s.take k) * s.getD k 0 := Int.mul_le_mul_of_nonneg_left (by omega) (by omega)
        omega
  have := key s.length (Nat.le_refl _)
  rwa [List.take_length] at this
structure Stk (s : List Int) : Prop where
  len1 : 1 ≤ s.length
  len8 : s.length ≤ 8
  bases : Bases s
  size_ : size s = prod s
  pos : 1 ≤ prod s
  le : prod s ≤ 1000000000000
theorem stk {s : List Int} (h : validStack s = true) : Stk s := by
  unfold validStack at h
  rw [decide_eq_true_iff] at h
  obtain ⟨h1, h2, h3, h4⟩ := h
  have hb : Bases s := h3
  have hp := size_prod hb
  have : size s = prod s := by omega
  exact ⟨h1, h2, hb, this, prod_pos hb, by omega⟩
theorem size_two {s : List Int} (h : Stk s) : 2 ≤ prod s := by
  have h0 := h.len1
  have h1 := prod_drop (s := s) (k := 0) (by omega)
  rw [List.drop_zero] at h1
  have hb := h.bases 0 (by omega)
  have hp := prod_pos (h.bases.drop 1)
  have h3 : 2 * 1 ≤ s.getD 0 0 * prod (s.drop 1) := Int.mul_le_mul hb.1 hp (by omega) (by omega)
  rw [h1]; simpa using h3
/-- Digits that are valid for a stack. -/
def DigOk (s l : List Int) : Prop := ∀ i, i < s.length → 0 ≤ l.getD i 0 ∧ l.getD i 0 < s.getD i 0
theorem digOk {s l : List Int} (hs : s.length ≤ 8) (hl : Nums 255 l) (h : validDig s l = true) : DigOk s l := fun i hi => by
  unfold validDig at h
  rw [List.all_eq_true] at h
  have := h i (by simp; omega)
  unfold goodAt at this
  rw [if_pos hi, decide_eq_true_iff] at this
  exact ⟨(hl.at_ (by omega) i).1, this⟩
theorem val_bd {s l : List Int} (hb : Bases s) (hl : DigOk s l) (hs : s.length ≤ l.length) : ∀ j k, k + j = s.length → 0 ≤ val (s.drop k) (l.drop k) ∧ val (s.drop k) (l.drop k) < prod (s.drop k)
  | 0, k, h => by rw [val_end (by omega), List.drop_of_length_le (by omega)]; simp [prod]
  | j + 1, k, h => by
    have ih := val_bd hb hl hs j (k + 1) (by omega)
    have h1 := hb k (by omega)
    have h2 := hl k (by omega)
    rw [val_drop (by omega) (by omega), prod_drop (by omega)]
    have h3 : 0 ≤ s.getD k 0 * val (s.drop (k + 1)) (l.drop (k + 1)) := Int.mul_nonneg (by omega) ih.1
    have h4 : s.getD k 0 * (val (s.drop (k + 1)) (l.drop (k + 1)) + 1) ≤ s.getD k 0 * prod (s.drop (k + 1)) := Int.mul_le_mul_of_nonneg_left (by omega) (by omega)
    rw [Int.mul_add] at h4
    omega
theorem val_le {s l : List Int} (hs : Stk s) (hl : DigOk s l) (hn : s.length ≤ l.length) (k : Nat) : 0 ≤ val (s.drop k) (l.drop k) ∧ val (s.drop k) (l.drop k) < 1000000000000 := by
  rcases Nat.lt_or_ge s.length k with h | h
  · rw [val_end (by omega)]; omega
  · have h1 := val_bd hs.bases hl hn (s.length - k) k (by omega)
    have h2 := prod_drop_le hs.bases k
    have := hs.le
    omega
theorem val_lt {s l : List Int} (hs : Stk s) (hl : DigOk s l) (hn : s.length ≤ l.length) : 0 ≤ val s l ∧ val s l < prod s := by
  have h1 := val_bd hs.bases hl hn s.length 0 (by omega)
  simpa using h1
/-- One step down from the last wheel. -/
theorem val_step {s l : List Int} (hs : Stk s) (hl : DigOk s l) (hn : s.length ≤ l.length) {k : Nat} (h : k < s.length) :
    val (s.drop k) (l.drop k) = val (s.drop (k + 1)) (l.drop (k + 1)) * s.getD k 0 + l.getD k 0 ∧ 0 ≤ val (s.drop (k + 1)) (l.drop (k + 1)) * s.getD k 0 ∧ val (s.drop (k + 1)) (l.drop (k + 1)) * s.getD k 0 ≤ 1000000000000 ∧ 0 ≤ l.getD k 0 ∧ l.getD k 0 ≤ 100 := by
  have h1 := val_drop (s := s) (l := l) h (by omega)
  have h2 := val_le hs hl hn k
  have h3 := val_le hs hl hn (k + 1)
  have h4 := hl k h
  have h5 := hs.bases k h
  have h6 : 0 ≤ s.getD k 0 * val (s.drop (k + 1)) (l.drop (k + 1)) := Int.mul_nonneg (by omega) h3.1
  rw [Int.mul_comm (val _ _) (s.getD k 0)]
  omega
/-! Digits of a value -/
def dAt (s : List Int) (v : Int) (k : Nat) : Int := v / prod (s.take k) % s.getD k 0
def digs (s : List Int) (v : Int) : List Int := (List.range 8).map fun k => if k < s.length then dAt s v k else 0
theorem digs_len (s : List Int) (v : Int) : (digs s v).length = 8 := by simp [digs]
theorem digs_at {s : List Int} {v : Int} {k : Nat} (hk : k < 8) : (digs s v).getD k 0 = if k < s.length then dAt s v k else 0 := by
  simp [digs, List.getD, hk]
theorem digs_lo {s : List Int} {v : Int} {k : Nat} (h8 : s.length ≤ 8) (hk : k < s.length) : (digs s v).getD k 0 = dAt s v k := by rw [digs_at (by omega), if_pos hk]
theorem dAt_bd {s : List Int} {v : Int} {k : Nat} (hb : Bases s) (hk : k < s.length) : 0 ≤ dAt s v k ∧ dAt s v k < s.getD k 0 := by
  have := hb k hk
  exact ⟨Int.emod_nonneg _ (by omega), Int.emod_lt_of_pos _ (by omega)⟩
theorem div_prod {s : List Int} {v : Int} {k : Nat} (hb : Bases s) (hk : k < s.length) : v / prod (s.take k) / s.getD k 0 = v / prod (s.take (k + 1)) := by
  have := prod_pos (hb.take k)
  rw [prod_take hk, Int.ediv_ediv_of_nonneg (by omega)]
theorem digs_ok {s : List Int} {v : Int} (hs : Stk s) : DigOk s (digs s v) := fun i hi => by
  rw [digs_lo hs.len8 hi]; exact dAt_bd hs.bases hi
theorem digs_num {s : List Int} {v : Int} (hb : Bases s) : Nums 255 (digs s v) := fun x hx => by
  simp only [digs, List.mem_map, List.mem_range] at hx
  obtain ⟨k, _, rfl⟩ := hx
  split
  · have h1 := dAt_bd (v := v) hb ‹_›; have h2 := hb k ‹_›; omega
  · omega
theorem digs_valid {s : List Int} {v : Int} (hs : Stk s) : validDig s (digs s v) = true := by
  unfold validDig
  rw [List.all_eq_true]
  intro i hi
  have hi : i < 8 := by simpa using hi
  unfold goodAt
  split
  · rw [decide_eq_true_iff]; exact (digs_ok hs i ‹_›).2
  · rw [decide_eq_true_iff, digs_at hi, if_neg ‹_›]
theorem emod_mul {x b p : Int} (hb : 0 < b) (hp : 0 < p) : x % (b * p) = x % b + b * (x / b % p) := by
  have h1 := Int.emod_add_mul_ediv x b
  have h2 := Int.emod_add_mul_ediv (x / b) p
  have h3 := Int.emod_nonneg x (show b ≠ 0 by omega)
  have h4 := Int.emod_lt_of_pos x hb
  have h5 := Int.emod_nonneg (x / b) (show p ≠ 0 by omega)
  have h6 := Int.emod_lt_of_pos (x / b) hp
  have h7 : b * (x / b % p + 1) ≤ b * p := Int.mul_le_mul_of_nonneg_left (by omega) (by omega)
  have h8 : 0 ≤ b * (x / b % p) := Int.mul_nonneg (by omega) h5
  rw [Int.mul_add] at h7
  have e : x = (x % b + b * (x / b % p)) + (b * p) * (x / b / p) := by
    rw [Int.mul_assoc, Int.add_assoc, ← Int.mul_add, h2, h1]
  have e2 := Int.add_mul_emod_self_left (x % b + b * (x / b % p)) (b * p) (x / b / p)
  rw [← e] at e2
  rw [e2, Int.emod_eq_of_lt (by omega) (by omega)]
theorem digs_part {s : List Int} {v : Int} (h8 : s.length ≤ 8) : Sx.part 0 (digs s v) s.length = digs s v := by
  unfold Sx.part
  rw [digs_len]
  refine List.ext_getElem? fun i => ?_
  rcases Nat.lt_or_ge i 8 with hi | hi
  · have e : (digs s v)[i]? = some ((digs s v).getD i 0) := by simp [List.getD, digs_len, hi]
    rw [e, digs_at hi]
    rcases Nat.lt_or_ge i s.length with h | h
    · rw [if_pos h, List.getElem?_append_left (by simp [digs_len]; omega), List.getElem?_take, if_pos h, e, digs_at hi, if_pos h]
    · rw [if_neg (by omega), List.getElem?_append_right (by simp [digs_len]; omega), List.getElem?_replicate, if_pos (by simp [digs_len]; omega)]
  · rw [List.getElem?_eq_none (by simp [digs_len]; omega), List.getElem?_eq_none (by rw [digs_len]; omega)]
def addD (s : List Int) (a : Dig) (n : Int) : Dig := dig (digs s ((val s a.l + n) % size s))
/-! Rounded down -/
theorem floor_dn {a b : Int} (hb : 0 < b) (h : a.tmod b < 0) : a.tdiv b - 1 = a / b := by
  have h1 := Int.tmod_add_mul_tdiv a b
  have h2 := Int.emod_add_mul_ediv a b
  have h3 := Int.emod_nonneg a (show b ≠ 0 by omega)
  have h4 := Int.emod_lt_of_pos a hb
  have h5 : -b < a.tmod b := by
    rcases Int.le_total 0 a with ha | ha
    · have := Int.tmod_nonneg b ha; omega
    · have := Int.tmod_lt_of_pos (-a) hb
      rw [Int.neg_tmod] at this; omega
  have h6 : b * (a.tdiv b - 1 - a / b) = a % b - a.tmod b - b := by rw [Int.mul_sub, Int.mul_sub, Int.mul_one]; omega
  have h7 : b * (a.tdiv b - 1 - a / b) < b * 1 := by omega
  have h8 : b * (-1) < b * (a.tdiv b - 1 - a / b) := by omega
  have h9 := Int.lt_of_mul_lt_mul_left h7 (by omega)
  have h10 := Int.lt_of_mul_lt_mul_left h8 (by omega)
  omega
theorem floor_up {a b : Int} (hb : 0 < b) (h : 0 ≤ a.tmod b) : a.tdiv b = a / b := by
  have h1 := Int.tmod_add_mul_tdiv a b
  have h2 := Int.emod_add_mul_ediv a b
  have h3 := Int.emod_nonneg a (show b ≠ 0 by omega)
  have h4 := Int.emod_lt_of_pos a hb
  have h5 : a.tmod b < b := Int.tmod_lt_of_pos a hb
  have h6 : b * (a.tdiv b - a / b) = a % b - a.tmod b := by rw [Int.mul_sub]; omega
  have h7 : b * (a.tdiv b - a / b) < b * 1 := by omega
  have h8 : b * (-1) < b * (a.tdiv b - a / b) := by omega
  have h9 := Int.lt_of_mul_lt_mul_left h7 (by omega)
  have h10 := Int.lt_of_mul_lt_mul_left h8 (by omega)
  omega
theorem tmod_sign {a b : Int} (hb : 0 < b) : (a < 0 → a.tmod b ≤ 0) ∧ (0 ≤ a → 0 ≤ a.tmod b) := by
  refine ⟨fun h => ?_, fun h => Int.tmod_nonneg b h⟩
  have := Int.tmod_nonneg (a := -a) b (by omega)
  rw [Int.neg_tmod] at this; omega
theorem tdiv_bd {a b : Int} (hb : 0 < b) : (0 ≤ a → 0 ≤ a.tdiv b ∧ a.tdiv b ≤ a) ∧ (a ≤ 0 → a ≤ a.tdiv b ∧ a.tdiv b ≤ 0) := by
  refine ⟨fun h => ?_, fun h => ?_⟩
  · rw [Int.tdiv_eq_ediv_of_nonneg h]; exact ⟨Int.ediv_nonneg h (by omega), Int.ediv_le_self b h⟩
  · have h1 : (-a).tdiv b = (-a) / b := Int.tdiv_eq_ediv_of_nonneg (by omega)
    rw [Int.neg_tdiv] at h1
    have h2 := Int.ediv_nonneg (a := -a) (b := b) (by omega) (by omega)
    have h3 := Int.ediv_le_self b (a := -a) (by omega)
    omega
end Go.W

/- Marks of digits, photos: in plain numbers. -/
set_option linter.unusedVariables false
set_option linter.unusedSimpArgs false
namespace Go.W
open Go Go.Sx
structure VMk where
  lo : Int
  hi : Int
def VMk.l (m : VMk) : List Int := [m.lo, m.hi]
def encMk (m : VMk) : List Value := m.l.flatMap (eI .u64)
theorem encMk_len : ∀ m, (encMk m).length = 2 := fun _ => rfl
theorem mk_len (m : VMk) : m.l.length = 2 := rfl
def zMk : VMk := ⟨0, 0⟩
def mkL (l : List Int) : VMk := ⟨l.getD 0 0, l.getD 1 0⟩
theorem mkL_l {l : List Int} (h : l.length = 2) : (mkL l).l = l := by
  match l, h with
  | [_, _], _ => rfl
theorem encMk_mk {l : List Int} (h : l.length = 2) : encMk (mkL l) = l.flatMap (eI .u64) := by unfold encMk; rw [mkL_l h]
theorem mk_ext {a b : VMk} (h0 : a.lo = b.lo) (h1 : a.hi = b.hi) : a = b := by cases a; cases b; simp_all
theorem mk_inj {a b : VMk} (h : a.l = b.l) : a = b := by
  simp only [VMk.l, List.cons.injEq, and_true] at h; exact mk_ext h.1 h.2
structure VPh where
  m0 : VMk
  m1 : VMk
  m2 : VMk
  m3 : VMk
  m4 : VMk
  m5 : VMk
  m6 : VMk
  m7 : VMk
def VPh.l (p : VPh) : List VMk := [p.m0, p.m1, p.m2, p.m3, p.m4, p.m5, p.m6, p.m7]
def encPh (p : VPh) : List Value := p.l.flatMap encMk
theorem encPh_len : ∀ p, (encPh p).length = 16 := fun _ => rfl
theorem ph_len (p : VPh) : p.l.length = 8 := rfl
def phot (l : List VMk) : VPh := ⟨l.getD 0 zMk, l.getD 1 zMk, l.getD 2 zMk, l.getD 3 zMk, l.getD 4 zMk, l.getD 5 zMk, l.getD 6 zMk, l.getD 7 zMk⟩
theorem phot_l {l : List VMk} (h : l.length = 8) : (phot l).l = l := by
  match l, h with
  | [_, _, _, _, _, _, _, _], _ => rfl
theorem encPh_ph {l : List VMk} (h : l.length = 8) : encPh (phot l) = l.flatMap encMk := by unfold encPh; rw [phot_l h]
def zPh : VPh := phot []
def OkMk (m : VMk) : Prop := (0 ≤ m.lo ∧ m.lo < 18446744073709551616) ∧ 0 ≤ m.hi ∧ m.hi < 18446744073709551616
def OkPh (p : VPh) : Prop := ∀ i, i < 8 → OkMk (p.l.getD i zMk)
theorem okZ : OkMk zMk := ⟨⟨Int.le_refl _, by decide⟩, Int.le_refl _, by decide⟩
theorem OkMk.at_ {m : VMk} (h : OkMk m) (i : Nat) : 0 ≤ m.l.getD i 0 ∧ m.l.getD i 0 < 18446744073709551616 := by
  match i with
  | 0 => exact h.1
  | 1 => exact h.2
  | _ + 2 => simp [VMk.l]
/-! single bits -/
def bitB (x : Int) (i : Nat) : Bool := x.toNat.testBit i
def putB (x : Int) (i : Nat) : Int := ((x.toNat ||| 2 ^ i : Nat) : Int)
theorem bitB_eq {x : Int} {i : Nat} (h : 0 ≤ x) : bitB x i = decide (x / 2 ^ i % 2 = 1) := by
  obtain ⟨n, rfl⟩ := Int.eq_ofNat_of_zero_le h
  unfold bitB
  rw [Int.toNat_natCast, Nat.testBit_eq_decide_div_mod_eq]
  refine decide_eq_decide.2 ?_
  constructor <;> intro h2 <;> exact_mod_cast h2
theorem wrap_u64n (n : Int) (h0 : 0 ≤ n) (h1 : n < 2 ^ 64) : IntKind.u64.wrap n = n := by rw [IntKind.wrap_u64]; omega
theorem bits_or1 {x : Int} {i : Nat} (hx : 0 ≤ x ∧ x < 18446744073709551616) (hi : i < 64) : bits .or .u64 x (2 ^ i) = putB x i := by
  obtain ⟨n, rfl⟩ := Int.eq_ofNat_of_zero_le hx.1
  have h := (bits_nat .u64 64 (Nat.le_refl _) wrap_u64n n (2 ^ i) (by omega) (Nat.pow_lt_pow_right (by omega) hi)).2
  unfold putB
  rw [Int.toNat_natCast, ← h]
  congr 1
theorem putB_bd {x : Int} {i : Nat} (hx : 0 ≤ x ∧ x < 18446744073709551616) (hi : i < 64) : 0 ≤ putB x i ∧ putB x i < 18446744073709551616 := by
  unfold putB
  have h : x.toNat ||| 2 ^ i < 2 ^ 64 := Nat.or_lt_two_pow (by omega) (Nat.pow_lt_pow_right (by omega) hi)
  generalize x.toNat ||| 2 ^ i = z at *
  omega
theorem bit_put (x : Int) (i j : Nat) : bitB (putB x i) j = (decide (i = j) || bitB x j) := by
  unfold bitB putB
  rw [Int.toNat_natCast, Nat.testBit_or, Nat.testBit_two_pow, Bool.or_comm]
theorem shl_one {i : Nat} (hi : i < 64) : IntKind.u64.wrap (1 * 2 ^ min (i : Int).toNat IntKind.u64.bits) = 2 ^ i := by
  have h : (2 : Int) ^ i < 2 ^ 64 := by
    have := Nat.pow_lt_pow_right (a := 2) (by omega) hi
    exact_mod_cast this
  have h0 : (0 : Int) ≤ 2 ^ i := Int.pow_nonneg (by omega)
  rw [Int.one_mul, Int.toNat_natCast, show min i IntKind.u64.bits = i from Nat.min_eq_left (by show i ≤ 64; omega), wrap_u64n _ h0 h]
theorem bits_one {y : Int} (h : 0 ≤ y ∧ y < 18446744073709551616) : bits .and .u64 y 1 = y % 2 := bits_mask .u64 64 (Nat.le_refl _) wrap_u64n 1 (by decide) y h.1 (by have := h.2; omega)
theorem bit_walk {x : Int} {i : Nat} (hx : 0 ≤ x ∧ x < 18446744073709551616) (hi : i < 64) : bits .and .u64 (x / 2 ^ min (i : Int).toNat IntKind.u64.bits) 1 = if bitB x i = true then 1 else 0 := by
  have h0 : (0 : Int) ≤ 2 ^ i := Int.pow_nonneg (by omega)
  have h1 := Int.ediv_nonneg hx.1 h0
  have h2 := Int.ediv_le_self (2 ^ i) hx.1
  rw [Int.toNat_natCast, show min i IntKind.u64.bits = i from Nat.min_eq_left (by show i ≤ 64; omega), bits_one (by omega), bitB_eq hx.1]
  by_cases h : x / 2 ^ i % 2 = 1
  · simp [h]
  · simp [h]; omega
theorem bit_ext {x y : Int} (hx : 0 ≤ x ∧ x < 18446744073709551616) (hy : 0 ≤ y ∧ y < 18446744073709551616) (h : ∀ i, i < 64 → bitB x i = bitB y i) : x = y := by
  have : x.toNat = y.toNat := by
    refine Nat.eq_of_testBit_eq fun i => ?_
    rcases Nat.lt_or_ge i 64 with hi | hi
    · exact h i hi
    · have hp : 2 ^ 64 ≤ 2 ^ i := Nat.pow_le_pow_right (by omega) hi
      rw [Nat.testBit_lt_two_pow (by omega), Nat.testBit_lt_two_pow (by omega)]
  omega
/-! marks -/
def hasM (m : VMk) (d : Nat) : Bool := bitB (m.l.getD (d / 64) 0) (d % 64)
def putM (m : VMk) (d : Nat) : VMk := mkL (m.l.set (d / 64) (putB (m.l.getD (d / 64) 0) (d % 64)))
theorem hasM_lo {m : VMk} {d : Nat} (h : d < 64) : hasM m d = bitB m.lo d := by
  unfold hasM; rw [show d / 64 = 0 by omega, show d % 64 = d by omega]; rfl
theorem hasM_hi {m : VMk} {d : Nat} (h : d < 64) : hasM m (64 + d) = bitB m.hi d := by
  unfold hasM; rw [show (64 + d) / 64 = 1 by omega, show (64 + d) % 64 = d by omega]; rfl
theorem putM_lo {m : VMk} {d : Nat} (h : d < 64) : putM m d = ⟨putB m.lo d, m.hi⟩ := by
  unfold putM; rw [show d / 64 = 0 by omega, show d % 64 = d by omega]; rfl
theorem putM_hi {m : VMk} {d : Nat} (h : d < 64) : putM m (64 + d) = ⟨m.lo, putB m.hi d⟩ := by
  unfold putM; rw [show (64 + d) / 64 = 1 by omega, show (64 + d) % 64 = d by omega]; rfl
theorem lo_or_hi {d : Nat} (h : d < 128) : d < 64 ∨ ∃ e, e < 64 ∧ d = 64 + e := by
  rcases Nat.lt_or_ge d 64 with h1 | h1
  · exact .inl h1
  · exact .inr ⟨d - 64, by omega, by omega⟩
theorem putM_ok {m : VMk} {d : Nat} (hm : OkMk m) (h : d < 128) : OkMk (putM m d) := by
  rcases lo_or_hi h with h2 | ⟨e, h2, rfl⟩
  · rw [putM_lo h2]; exact ⟨putB_bd hm.1 h2, hm.2⟩
  · rw [putM_hi h2]; exact ⟨hm.1, putB_bd hm.2 h2⟩
theorem has_put {m : VMk} {d e : Nat} (hd : d < 128) (he : e < 128) : hasM (putM m d) e = (decide (d = e) || hasM m e) := by
  rcases lo_or_hi hd with h | ⟨d, h, rfl⟩ <;> rcases lo_or_hi he with h2 | ⟨e, h2, rfl⟩
  · rw [putM_lo h, hasM_lo h2, hasM_lo h2, bit_put]
  · rw [putM_lo h, hasM_hi h2, hasM_hi h2, show decide (d = 64 + e) = false by simp; omega]; rfl
  · rw [putM_hi h, hasM_lo h2, hasM_lo h2, show decide (64 + d = e) = false by simp; omega]; rfl
  · rw [putM_hi h, hasM_hi h2, hasM_hi h2, bit_put, show decide (64 + d = 64 + e) = decide (d = e) from decide_eq_decide.2 (by omega)]
theorem has_ext {m n : VMk} (hm : OkMk m) (hn : OkMk n) (h : ∀ d, d < 128 → hasM m d = hasM n d) : m = n := by
  refine mk_ext (bit_ext hm.1 hn.1 fun i hi => ?_) (bit_ext hm.2 hn.2 fun i hi => ?_)
  · have := h i (by omega); rwa [hasM_lo hi, hasM_lo hi] at this
  · have := h (64 + i) (by omega); rwa [hasM_hi hi, hasM_hi hi] at this
theorem has_z (d : Nat) : hasM zMk d = false := by
  have h : (zMk.l.getD (d / 64) 0) = 0 := by
    match d / 64 with
    | 0 => rfl
    | 1 => rfl
    | _ + 2 => rfl
  unfold hasM bitB
  rw [h]; simp
/-- The marks of all digits below a base. -/
def fullM : Nat → VMk
  | 0 => zMk
  | b + 1 => putM (fullM b) b
theorem fullM_ok : ∀ {b : Nat}, b ≤ 128 → OkMk (fullM b)
  | 0, _ => okZ
  | b + 1, h => putM_ok (fullM_ok (by omega)) (by omega)
theorem has_full : ∀ {b d : Nat}, b ≤ 128 → d < 128 → hasM (fullM b) d = decide (d < b)
  | 0, d, _, _ => by rw [show fullM 0 = zMk from rfl, has_z]; simp
  | b + 1, d, hb, hd => by
    rw [show fullM (b + 1) = putM (fullM b) b from rfl, has_put (by omega) hd, has_full (by omega) hd]
    rw [Bool.eq_iff_iff]; simp only [Bool.or_eq_true, decide_eq_true_iff]; omega
def subM (m n : VMk) : Bool := decide (bits .andNot .u64 m.lo n.lo = 0 ∧ bits .andNot .u64 m.hi n.hi = 0)
theorem bits_sub {x y : Int} (hx : 0 ≤ x ∧ x < 18446744073709551616) (hy : 0 ≤ y ∧ y < 18446744073709551616) (h : bits .andNot .u64 x y = 0) {i : Nat} (hi : i < 64) (hb : bitB x i = true) : bitB y i = true := by
  obtain ⟨a, rfl⟩ := Int.eq_ofNat_of_zero_le hx.1
  obtain ⟨b, rfl⟩ := Int.eq_ofNat_of_zero_le hy.1
  have h : IntKind.u64.wrap ((BitVec.ofInt IntKind.u64.bits (a : Int) &&& ~~~BitVec.ofInt IntKind.u64.bits (b : Int)).toNat : Int) = 0 := h
  simp only [BitVec.ofInt_natCast] at h
  have h64 : IntKind.u64.bits = 64 := rfl
  rw [wrap_u64n _ (Int.natCast_nonneg _) (by have := (BitVec.ofNat IntKind.u64.bits a &&& ~~~BitVec.ofNat IntKind.u64.bits b).isLt; exact_mod_cast this)] at h
  have h1 : (BitVec.ofNat IntKind.u64.bits a &&& ~~~BitVec.ofNat IntKind.u64.bits b).toNat = 0 := by exact_mod_cast h
  have h2 : (BitVec.ofNat IntKind.u64.bits a &&& ~~~BitVec.ofNat IntKind.u64.bits b) = 0#_ := BitVec.eq_of_toNat_eq (by rw [h1]; simp)
  have h3 := congrArg (fun z => BitVec.getLsbD z i) h2
  have h4 : i < IntKind.u64.bits := hi
  simp only [BitVec.getLsbD_and, BitVec.getLsbD_not, BitVec.getLsbD_ofNat, h4, decide_true, Bool.true_and, BitVec.getLsbD_zero] at h3
  unfold bitB at hb ⊢
  rw [Int.toNat_natCast] at hb ⊢
  rw [hb] at h3
  simpa using h3
theorem sub_has {m n : VMk} (hm : OkMk m) (hn : OkMk n) (h : subM m n = true) {d : Nat} (hd : d < 128) (hh : hasM m d = true) : hasM n d = true := by
  unfold subM at h
  rw [decide_eq_true_iff] at h
  rcases lo_or_hi hd with h2 | ⟨e, h2, rfl⟩
  · rw [hasM_lo h2] at hh ⊢; exact bits_sub hm.1 hn.1 h.1 h2 hh
  · rw [hasM_hi h2] at hh ⊢; exact bits_sub hm.2 hn.2 h.2 h2 hh
/-! photos that are valid -/
def phAt (s : List Int) (l : List VMk) (i : Nat) : Bool := if i < s.length then (!decide ((l.getD i zMk).l = [0, 0])) && subM (l.getD i zMk) (fullM (s.getD i 0).toNat) else decide ((l.getD i zMk).l = [0, 0])
def photoOk (s : List Int) (l : List VMk) : Bool := (List.range 8).all (phAt s l)
def validPh (s : List Int) (p : VPh) : Bool := validStack s && photoOk s p.l
theorem po_no {s : List Int} {l : List VMk} {k : Nat} (hk : k < 8) (h : phAt s l k = false) : false = photoOk s l := by
  symm; rw [← Bool.not_eq_true]; unfold photoOk; rw [List.all_eq_true]; intro hall
  rw [hall k (by simp; omega)] at h; cases h
theorem po_all {s : List Int} {l : List VMk} {k : Nat} (hk : ¬ k < 8) (h : ∀ i, i < k → phAt s l i = true) : true = photoOk s l := by
  symm; unfold photoOk; rw [List.all_eq_true]; intro i hi; exact h i (by simp at hi; omega)
/-- What a valid photo shows. -/
structure PhOk (s : List Int) (l : List VMk) : Prop where
  some_ : ∀ i, i < s.length → ∃ d, d < 128 ∧ hasM (l.getD i zMk) d = true
  lt : ∀ i, i < s.length → ∀ d, d < 128 → hasM (l.getD i zMk) d = true → (d : Int) < s.getD i 0
  hi : ∀ i, s.length ≤ i → i < 8 → l.getD i zMk = zMk
theorem phOk {s : List Int} {p : VPh} (hs : Stk s) (hp : OkPh p) (h : photoOk s p.l = true) : PhOk s p.l := by
  have h8 := hs.len8
  unfold photoOk at h
  rw [List.all_eq_true] at h
  have hz : ∀ m : VMk, m.l = [0, 0] → m = zMk := fun m hm => mk_inj hm
  refine ⟨fun i hi => ?_, fun i hi d hd hh => ?_, fun i hi hi8 => ?_⟩
  · have := h i (by simp; omega)
    unfold phAt at this
    rw [if_pos hi, Bool.and_eq_true, Bool.not_eq_true', decide_eq_false_iff_not] at this
    refine Classical.byContradiction fun hno => this.1 ?_
    have e : p.l.getD i zMk = zMk := has_ext (hp i (by omega)) okZ fun d hd => by
      rw [has_z]
      cases hh : hasM (p.l.getD i zMk) d
      · rfl
      · exact absurd ⟨d, hd, hh⟩ hno
    rw [e]; rfl
  · have := h i (by simp; omega)
    unfold phAt at this
    rw [if_pos hi, Bool.and_eq_true] at this
    have hb := hs.bases i hi
    have h2 := sub_has (hp i (by omega)) (fullM_ok (by omega)) this.2 hd hh
    rw [has_full (by omega) hd, decide_eq_true_iff] at h2
    omega
  · have := h i (by simp; omega)
    unfold phAt at this
    rw [if_neg (by omega), decide_eq_true_iff] at this
    exact hz _ this
def showsM (s : List Int) (l : List VMk) (d : List Int) : Bool := (List.range s.length).all fun i => hasM (l.getD i zMk) (d.getD i 0).toNat
theorem sm_no {s : List Int} {l : List VMk} {d : List Int} {k : Nat} (hk : k < s.length) (h : hasM (l.getD k zMk) (d.getD k 0).toNat = false) : false = showsM s l d := by
  symm; rw [← Bool.not_eq_true]; unfold showsM; rw [List.all_eq_true]; intro hall
  rw [hall k (by simp; omega)] at h; cases h
theorem sm_all {s : List Int} {l : List VMk} {d : List Int} {k : Nat} (hk : ¬ k < s.length) (h : ∀ i, i < k → hasM (l.getD i zMk) (d.getD i 0).toNat = true) : true = showsM s l d := by
  symm; unfold showsM; rw [List.all_eq_true]; intro i hi; exact h i (by simp at hi; omega)
def shV (s : List Int) (p : VPh) (a : Dig) : Bool × Int := if (validPh s p && (validStack s && validDig s a.l)) = true then (showsM s p.l a.l, 0) else (false, 1)
end Go.W

/- Arrays and truths that are the same, compared. -/
set_option linter.unusedVariables false
set_option linter.unusedSimpArgs false
namespace Go.Sx
open Go Go.RowKit
variable {C : Cx} {env : Env} {m : List Ent} {o : Oper}
theorem fr_neq_ints_eq {T x y T' e n i} {k : IntKind} (xs ys : List Int) (hxy : xs = ys) (ho : o.op = .binOp .neq T x y T') (hx : ev env x = some (.agg (xs.flatMap (eI k)).toArray)) (hy : ev env y = some (.agg (ys.flatMap (eI k)).toArray)) (hT : C.P.underlying T = some (.array n e)) (hi : C.P.info? e = some i) (hs : i.size = 1) (he : C.P.underlying e = some (.int k)) (hg : C.P.eqGuardType C.P.depth T = false) (hxl : xs.length = n) (hyl : ys.length = n) : Free C o env m (.bool false) := by
  have := fr_neq_ints (m := m) xs ys ho hx hy hT hi hs he hg hxl hyl
  rwa [decide_eq_true hxy] at this
theorem row_nil {i n c sz : Nat} {A : Option Addr} {E xs} (hi : m[i]? = some (.row (.slice A n c) E sz n xs)) : ∀ w, Holds C.base C.w0 m w → (A = none → c = 0) := fun w hw => by
  have h := hw.all _ (List.mem_of_getElem? hi)
  rcases h.2 with ⟨hv, _⟩ | ⟨g, cap, cur, hv, _⟩
  · simp only [Value.slice.injEq] at hv
    exact fun _ => hv.2.2
  · simp only [Value.slice.injEq] at hv
    obtain ⟨rfl, -, rfl⟩ := hv
    exact fun e => nomatch e
end Go.Sx

/- More rules: records compared. -/
set_option linter.unusedVariables false
set_option linter.unusedSimpArgs false
namespace Go.Sx
open Go Go.RowKit
variable {C : Cx} {env env' : Env} {m m' : List Ent} {o : Oper}
/-- The model finds x and y equal (b = true), or not. -/
def EqOk (P : Program) (d : Nat) (T : TypeId) (x y : Value) (b : Bool) : Prop := ∀ w, (Op.equalIn d T x y).run P w = .ok b w
def EqFs (P : Program) (d : Nat) (xs ys : List Value) (fs : List Field) (b : Bool) : Prop := ∀ w, (Op.eqFields d xs.toArray ys.toArray fs).run P w = .ok b w
theorem EqOk.int {P : Program} {d : Nat} {T : TypeId} {k : IntKind} {p q : Int} (hT : P.underlying T = some (.int k)) : EqOk P (d + 1) T (.int k p) (.int k q) (decide (p = q)) := fun w => by
  rw [run_equalIn_int w d T k k p q hT]; congr 1
theorem EqOk.bool {P : Program} {d : Nat} {T : TypeId} {p q : Bool} (hT : P.underlying T = some .bool) : EqOk P (d + 1) T (.bool p) (.bool q) (p == q) := fun w => run_equalIn_bool' w d T p q hT
theorem EqOk.struct {P : Program} {d : Nat} {t : TypeId} {fs : Array Field} {fl : List Field} {xs ys : List Value} {b : Bool} (hu : P.underlying t = some (.struct fs)) (hfl : fs.toList = fl) (hp : P.stoodInHeld t = false) (h : EqFs P d xs ys fl b) : EqOk P (d + 1) t (.agg xs.toArray) (.agg ys.toArray) b := fun w => by
  have e : P.fieldsOf t = fs := by simp [Program.fieldsOf, hu]
  rw [run_equalIn_struct w d t _ _ (by rw [e]; exact hu) hp, e, hfl]
  exact h w
theorem EqFs.nil {P : Program} {d : Nat} {xs ys : List Value} : EqFs P d xs ys [] true := fun w => by simp [Op.eqFields]
theorem EqFs.step {P : Program} {d : Nat} {xs ys : List Value} {f : Field} {fs : List Field} {x y : Value} {b b' : Bool} (hn : (f.name != "_") = true) (px : ∀ w, (Go.part f.type xs.toArray f.offset).run P w = .ok x w) (py : ∀ w, (Go.part f.type ys.toArray f.offset).run P w = .ok y w) (he : EqOk P d f.type x y b) (h : EqFs P d xs ys fs b') : EqFs P d xs ys (f :: fs) (b && b') := fun w => by
  have hn' : f.name ≠ "_" := by simpa using hn
  simp only [Op.eqFields, hn', ne_eq, not_false_eq_true, if_true, Sem.run_bind, px w, py w, Result.andThen_ok, he w]
  cases b with
  | true => simp only [Bool.not_true, Bool.false_eq_true, if_false, Bool.true_and]; exact h w
  | false => simp
theorem EqFs.one {P : Program} {d : Nat} {xs ys : List Value} {f : Field} {fs : List Field} {x y : Value} {b b' : Bool} {dd : TypeDesc} (hn : (f.name != "_") = true) (hT : P.underlying f.type = some dd) (hd : aggD dd = false) (hx : xs[f.offset]? = some x) (hy : ys[f.offset]? = some y) (he : EqOk P d f.type x y b) (h : EqFs P d xs ys fs b') : EqFs P d xs ys (f :: fs) (b && b') :=
  EqFs.step hn (fun w => run_part1 hT hd (by simpa using hx) w) (fun w => run_part1 hT hd (by simpa using hy) w) he h
theorem EqFs.many {P : Program} {d : Nat} {xs ys : List Value} {f : Field} {fs : List Field} {cx cy : List Value} {b b' : Bool} {dd : TypeDesc} {n : Nat} (hn : (f.name != "_") = true) (hT : P.underlying f.type = some dd) (hd : aggD dd = true) (hs : (P.info? f.type).map (·.size) = some n) (hx : (xs.drop f.offset).take n = cx) (hy : (ys.drop f.offset).take n = cy) (he : EqOk P d f.type (.agg cx.toArray) (.agg cy.toArray) b) (h : EqFs P d xs ys fs b') : EqFs P d xs ys (f :: fs) (b && b') :=
  EqFs.step hn (fun w => by rw [run_partN hT hd hs w, hx]) (fun w => by rw [run_partN hT hd hs w, hy]) he h
end Go.Sx
namespace Go.Sx
open Go Go.RowKit
variable {C : Cx} {env env' : Env} {m m' : List Ent} {Q Q' : Post}
/-! ### Loops in which a slice grows -/
structure HandA (V : Nat → Option Addr → Nat → Env) (Kp : Env) (M : Nat → Option Addr → Nat → List Ent) (Mk : List Ent) (I : Nat → Prop) (μ : Nat → Nat) (k : Nat) (A : Option Addr) (c : Nat) (env' : Env) (m' : List Ent) : Prop where
  out : Hand (X := Nat × Option Addr × Nat) (fun x => V x.1 x.2.1 x.2.2) Kp (fun x => M x.1 x.2.1 x.2.2) Mk (fun x => I x.1) (fun x => μ x.1) (k, A, c) env' m'
theorem HandA.of {V : Nat → Option Addr → Nat → Env} {Kp : Env} {M : Nat → Option Addr → Nat → List Ent} {Mk : List Ent} {I : Nat → Prop} {μ : Nat → Nat} {k : Nat} {A : Option Addr} {c : Nat} (k' : Nat) (A' : Option Addr) (c' : Nat) (t : Nat) (is : List Nat) (hV : Agree (V k' A' c') env') (hK : Agree Kp env') (hM : pickT m' t is = some (M k' A' c' ++ Mk)) (hf : freshT t is = true) (hI : I k') (hlt : μ k' < μ k) : HandA V Kp M Mk I μ k A c env' m' :=
  ⟨Hand.mk (k', A', c') t is hV hK hM hf hI hlt⟩
theorem Ex.loopA {c : Code} (V : Nat → Option Addr → Nat → Env) (M : Nat → Option Addr → Nat → List Ent) (I : Nat → Prop) (μ : Nat → Nat) (k0 : Nat) (A0 : Option Addr) (c0 : Nat) (Kp : Env) (Mk : List Ent) (t : Nat) (is : List Nat) (hV : Agree (V k0 A0 c0) env) (hK : Agree Kp env) (hM : pickT m t is = some (M k0 A0 c0 ++ Mk)) (hf : freshT t is = true) (h0 : I k0)
    (hr : ∀ k A cc, I k → Ex C c (V k A cc ++ Kp) (M k A cc ++ Mk) (Sq (HandA V Kp M Mk I μ k A cc) Q)) : Ex C (.loop c) env m Q :=
  Ex.loopK (X := Nat × Option Addr × Nat) (fun x => V x.1 x.2.1 x.2.2) (fun x => M x.1 x.2.1 x.2.2) (fun x => I x.1) (fun x => μ x.1) (k0, A0, c0) Kp Mk t is hV hK hM hf h0 (fun x hI => (hr x.1 x.2.1 x.2.2 hI).mono (fun e env m h => by
    cases e with
    | normal => exact h.out
    | exit k => exact h
    | goto k => exact h
    | ret => exact h
    | panic k => exact h
    | outgrown => exact h))
structure HandB (V : Nat → Option Addr → Nat → Option Addr → Nat → Env) (Kp : Env) (M : Nat → Option Addr → Nat → Option Addr → Nat → List Ent) (Mk : List Ent) (I : Nat → Prop) (μ : Nat → Nat) (k : Nat) (A : Option Addr) (c : Nat) (A2 : Option Addr) (c2 : Nat) (env' : Env) (m' : List Ent) : Prop where
  out : Hand (X := Nat × Option Addr × Nat × Option Addr × Nat) (fun x => V x.1 x.2.1 x.2.2.1 x.2.2.2.1 x.2.2.2.2) Kp (fun x => M x.1 x.2.1 x.2.2.1 x.2.2.2.1 x.2.2.2.2) Mk (fun x => I x.1) (fun x => μ x.1) (k, A, c, A2, c2) env' m'
theorem HandB.of {V : Nat → Option Addr → Nat → Option Addr → Nat → Env} {Kp : Env} {M : Nat → Option Addr → Nat → Option Addr → Nat → List Ent} {Mk : List Ent} {I : Nat → Prop} {μ : Nat → Nat} {k : Nat} {A : Option Addr} {c : Nat} {A2 : Option Addr} {c2 : Nat} (k' : Nat) (A' : Option Addr) (c' : Nat) (A2' : Option Addr) (c2' : Nat) (t : Nat) (is : List Nat) (hV : Agree (V k' A' c' A2' c2') env') (hK : Agree Kp env') (hM : pickT m' t is = some (M k' A' c' A2' c2' ++ Mk)) (hf : freshT t is = true) (hI : I k') (hlt : μ k' < μ k) : HandB V Kp M Mk I μ k A c A2 c2 env' m' :=
  ⟨Hand.mk (k', A', c', A2', c2') t is hV hK hM hf hI hlt⟩
end Go.Sx
namespace Go.Sx
open Go Go.RowKit
variable {C : Cx} {env env' : Env} {m m' : List Ent} {o : Oper} {K : Env → List Ent → Prop}
/-! ### Cells written one behind the other -/
theorem op_storeRowF {i k n c : Nat} {A T E sz xs ys x y v new n'} (ho : o.op = .store T x y) (hx : ev env x = some (.pointer (offA A k))) (hy : ev env y = some v) (hc : v.cells = List.toArray new) (hone : new.all (·.oneCell') = true) (hs : (C.P.info? T).map (·.size) = some n') (hn : Nat.beq new.length n' = true) (hi : m[i]? = some (.row (.slice A n c) E sz n xs)) (hk : k + new.length ≤ xs.length) (hne : new ≠ []) (hd : o.dst = none) (hput : put xs k new = ys)
    (h : K env (m.set i (.row (.slice A n c) E sz n ys))) : Op1 C o env m K := by
  subst hput
  exact op_storeRow ho hx hy hc hone hs hn hi hk hne hd h
end Go.Sx
namespace Go.Sx
open Go Go.RowKit
variable {C : Cx} {env : Env} {m : List Ent} {o : Oper}
end Go.Sx
namespace Go.Sx
open Go Go.RowKit
variable {C : Cx} {env env' : Env} {m m' : List Ent} {l : List Oper} {o oi oj : Oper} {K : Env → List Ent → Prop} {S : List Ent} {fuel : Nat} {done : List Nat} {i j di dj : Nat} {T : TypeId} {cs : List Value}
/-! ### A variable made at any time beside a chain of calls -/
theorem ExD.swap {v p : Value} (hne : i ≠ j) (hd : Nat.beq di dj = false) (hp : m'.Perm m) (h : ExD C l S fuel (j :: i :: done) ((dj, p) :: (di, v) :: env) m K) : ExD C l S fuel (i :: j :: done) ((di, v) :: (dj, p) :: env) m' K := by
  unfold ExD at h ⊢
  rw [lst_two l.length i j done hne]
  intro a w hr hh
  refine h a w ⟨hr.def0, hr.size, fun t v ht => hr.at_ t v ?_⟩ (hh.perm hp)
  simp only [look] at ht ⊢
  cases e1 : Nat.beq dj t with
  | true =>
    have e := Nat.eq_of_beq_eq_true e1
    subst e
    simp only [hd, e1, cond_true, cond_false] at ht ⊢; exact ht
  | false =>
    rw [e1] at ht
    cases e2 : Nat.beq di t with
    | true => simp only [e2, e1, cond_true, cond_false] at ht ⊢; exact ht
    | false => simp only [e2, e1, cond_true, cond_false] at ht ⊢; exact ht
/-- The operation makes a variable, whatever stands. -/
def Alc (C : Cx) (o : Oper) (d : Nat) (T : TypeId) (cs : List Value) : Prop := ∀ env m K, (∀ b, K ((d, .pointer (some ⟨b, 0, none⟩)) :: env) (.blk b cs T :: m)) → Op1 C o env m K
theorem Alc.of {d : Nat} {z} (ho : o.op = .alloc T) (hz : (C.P.info? T).bind (·.zero) = some z) (hc : z.cells = List.toArray cs) (hd : o.dst = some d) (hlt : Nat.blt d C.n = true) : Alc C o d T cs := fun _ _ _ h => op_alloc ho hz hc hd hlt h
/-- What is left, where the variable of j is not made yet; and what is left where it is. -/
def ExDF (C : Cx) (l : List Oper) (S : List Ent) (fuel : Nat) (done : List Nat) (env : Env) (m : List Ent) (K : Env → List Ent → Prop) (j dj : Nat) (T : TypeId) (cs : List Value) : Prop :=
  ExD C l S (fuel + 1) done env m K ∧ ∀ b, ExD C l S fuel (j :: done) ((dj, .pointer (some ⟨b, 0, none⟩)) :: env) (.blk b cs T :: m) K
theorem ExDF.start (j : Nat) (_ : l[j]? = some oj) (_ : Alc C oj dj T cs) (h : ExDF C l S fuel done env m K j dj T cs) : ExD C l S (fuel + 1) done env m K := h.1
theorem ExDF.step {X : Type} {v : X → Value} {n : X → List Ent} {H : X → Prop} (hi : l[i]? = some oi) (hj : l[j]? = some oj) (h2 : readyOk l done [i, j] = true) (h4 : nextOk l (j :: done) i = true) (hij : Nat.beq i j = false)
    (hgi : wantB l env oi = some true) (hgj : wantB l env oj = some true) (hgi' : ∀ b, wantB l ((dj, .pointer (some ⟨b, 0, none⟩)) :: env) oi = some true) (hdd : Nat.beq di dj = false) (hS : S.Sublist m) (ha : Alc C oj dj T cs)
    (ci : ∀ K', (∀ x, H x → K' ((di, v x) :: env) (n x ++ m)) → Op1 C oi env m K')
    (ci' : ∀ b, ∀ K', (∀ x, H x → K' ((di, v x) :: (dj, .pointer (some ⟨b, 0, none⟩)) :: env) (n x ++ .blk b cs T :: m)) → Op1 C oi ((dj, .pointer (some ⟨b, 0, none⟩)) :: env) (.blk b cs T :: m) K')
    (h : ∀ x, H x → ExDF C l S fuel (i :: done) ((di, v x) :: env) (n x ++ m) K j dj T cs) : ExDF C l S (fuel + 1) done env m K j dj T cs := by
  have hne : i ≠ j := fun e => by subst e; simp at hij
  have h5 : ∀ b, ExD C l S (fuel + 1) (j :: done) ((dj, .pointer (some ⟨b, 0, none⟩)) :: env) (.blk b cs T :: m) K := fun b =>
    ExD.op hi h4 (hgi' b) (ci' b _ fun x hx => ⟨(hS.cons _).trans (List.sublist_append_right _ _), ExD.swap hne hdd List.perm_middle ((h x hx).2 b)⟩)
  refine ⟨ExD.ops h2 (by simp) fun k hk => ?_, h5⟩
  rcases List.mem_cons.1 hk with rfl | hk
  · exact ⟨oi, hi, hgi, ci _ fun x hx => ⟨hS.trans (List.sublist_append_right _ _), (h x hx).1⟩⟩
  · obtain rfl : k = j := by simpa using hk
    exact ⟨oj, hj, hgj, ha _ _ _ fun b => ⟨hS.cons _, h5 b⟩⟩
theorem ExDF.take {v : Value} (hi : l[i]? = some o) (ht : takeOk l done i = true) (ht' : takeOk l (j :: done) i = true) (hij : Nat.beq i j = false) (hf : Free C o env S v) (hf' : ∀ b, Free C o ((dj, .pointer (some ⟨b, 0, none⟩)) :: env) S v) (hS : S.Sublist m) (hg : wantB l env o = some true) (hg' : ∀ b, wantB l ((dj, .pointer (some ⟨b, 0, none⟩)) :: env) o = some true)
    (hd : o.dst = some di) (hlt : Nat.blt di C.n = true) (hdd : Nat.beq di dj = false) (h : ExDF C l S fuel (i :: done) ((di, v) :: env) m K j dj T cs) : ExDF C l S (fuel + 1) done env m K j dj T cs :=
  have hne : i ≠ j := fun e => by subst e; simp at hij
  ⟨ExD.take hi ht hf hS hg hd hlt h.1, fun b => ExD.take hi ht' (hf' b) (hS.cons _) (hg' b) hd hlt (ExD.swap hne hdd (List.Perm.refl _) (h.2 b))⟩
theorem ExDF.fin (hj : l[j]? = some oj) (hn : nextOk l done j = true) (hg : wantB l env oj = some true) (hS : S.Sublist m) (ha : Alc C oj dj T cs) (h : ∀ b, ExD C l S fuel (j :: done) ((dj, .pointer (some ⟨b, 0, none⟩)) :: env) (.blk b cs T :: m) K) : ExDF C l S fuel done env m K j dj T cs :=
  ⟨ExD.op hj hn hg (ha _ _ _ fun b => ⟨hS.cons _, h b⟩), h⟩
end Go.Sx
namespace Go.Sx
open Go Go.RowKit
end Go.Sx
namespace Go.Sx
open Go Go.RowKit
end Go.Sx
namespace Go.Sx
open Go Go.RowKit
variable {C : Cx} {env : Env} {m : List Ent} {o : Oper}
end Go.Sx

/- Rows that are only read: laid on a pile, and taken off it. -/
namespace Go.Sx
open Go Go.RowKit
variable {C : Cx} {env : Env} {m m' : List Ent} {Q : Post} {l rest : List Oper} {K : Env → List Ent → Prop}
theorem Rw.apart_comm {r s : Rw} (h : r.apart s) : s.apart r := fun b hb hr => h b hr hb
theorem Holds.pile0 {base w0 w} (h : Holds base w0 m w) : Holds base w0 (.pile [] :: m) w := by
  refine ⟨h.below, h.le, fun e he => ?_, List.pairwise_cons.2 ⟨fun f hf b hb => ?_, h.apart⟩, h.others⟩
  · rcases List.mem_cons.1 he with rfl | he
    · exact ⟨fun r hr => (nomatch hr), List.Pairwise.nil⟩
    · exact h.all e he
  · obtain ⟨r, hr, _⟩ := hb; cases hr
theorem Holds.lay {base w0 w} {r : Rw} {xs ys : List Rw} (h : Holds base w0 (.row r.v r.E r.sz r.n r.xs :: .pile (xs ++ ys) :: m) w) : Holds base w0 (.pile (xs ++ r :: ys) :: m) w := by
  have hr := h.all _ (List.mem_cons_self ..)
  have hp := h.all (.pile (xs ++ ys)) (by simp)
  obtain ⟨ha1, ha⟩ := List.pairwise_cons.1 h.apart
  obtain ⟨ha2, ha3⟩ := List.pairwise_cons.1 ha
  refine ⟨h.below, h.le, fun e he => ?_, List.pairwise_cons.2 ⟨fun f hf b hb => ?_, ha3⟩, h.others⟩
  · rcases List.mem_cons.1 he with rfl | he
    · refine ⟨fun s hs => ?_, ?_⟩
      · rcases List.mem_append.1 hs with hs | hs
        · exact hp.1 s (List.mem_append.2 (.inl hs))
        · rcases List.mem_cons.1 hs with rfl | hs
          · exact hr
          · exact hp.1 s (List.mem_append.2 (.inr hs))
      · refine (List.perm_middle.pairwise_iff fun h => Rw.apart_comm h).2 (List.pairwise_cons.2 ⟨fun s hs b hb hb2 => ?_, hp.2⟩)
        exact ha1 (.pile (xs ++ ys)) (by simp) b hb ⟨s, hs, hb2⟩
    · exact h.all e (by simp [he])
  · obtain ⟨s, hs, hb⟩ := hb
    rcases List.mem_append.1 hs with hs | hs
    · exact ha2 f hf b ⟨s, List.mem_append.2 (.inl hs), hb⟩
    · rcases List.mem_cons.1 hs with rfl | hs
      · exact ha1 f (by simp [hf]) b hb
      · exact ha2 f hf b ⟨s, List.mem_append.2 (.inr hs), hb⟩
theorem Ex.conv {c : Code} (hc : ∀ w, Holds C.base C.w0 m w → Holds C.base C.w0 m' w) (k : Ex C c env m' Q) : Ex C c env m Q := fun a w hr hh => k a w hr (hc w hh)
theorem ExL.conv (hc : ∀ w, Holds C.base C.w0 m w → Holds C.base C.w0 m' w) (k : ExL C l rest env m' K) : ExL C l rest env m K := fun a w hr hh => k a w hr (hc w hh)
theorem ExD.conv {S fuel done} (hc : ∀ w, Holds C.base C.w0 m w → Holds C.base C.w0 m' w) (k : ExD C l S fuel done env m' K) : ExD C l S fuel done env m K := fun a w hr hh => k a w hr (hc w hh)
/-- An empty pile. -/
theorem Ex.pile0 {c : Code} (k : Ex C c env (.pile [] :: m) Q) : Ex C c env m Q := Ex.conv (fun _ h => h.pile0) k
theorem ExL.pile0 (k : ExL C l rest env (.pile [] :: m) K) : ExL C l rest env m K := ExL.conv (fun _ h => h.pile0) k
theorem layHolds {F : List Ent} {v E sz n cs xs ys} (hp : m.Perm (.row v E sz n cs :: .pile (xs ++ ys) :: F)) : ∀ w, Holds C.base C.w0 m w → Holds C.base C.w0 (.pile (xs ++ ⟨v, E, sz, n, cs⟩ :: ys) :: F) w :=
  fun _ h => Holds.lay (r := ⟨v, E, sz, n, cs⟩) (h.perm hp)
theorem Reads.pile {i : Nat} {rs : List Rw} {A n c E sz cs} (hi : m[i]? = some (.pile rs)) (hr : (⟨.slice A n c, E, sz, n, cs⟩ : Rw) ∈ rs) : Reads C m A cs := by
  have h : ∀ w, Holds C.base C.w0 m w → Rd w A cs := fun w hw => by
    have h1 := hw.all _ (List.mem_of_getElem? hi)
    have h2 : Ent.holds C.base w (.row (.slice A n c) E sz n cs) := h1.1 _ hr
    have h3 : Holds C.base C.w0 [.row (.slice A n c) E sz n cs] w := ⟨hw.below, hw.le, fun e he => by simp at he; subst he; exact h2, by simp, hw.others⟩
    have h4 : Reads C [.row (.slice A n c) E sz n cs] A cs := Reads.row (i := 0) rfl
    unfold Reads at h4
    exact h4 w h3
  unfold Reads
  exact h
end Go.Sx
namespace Go.Sx
open Go Go.RowKit
variable {C : Cx} {env : Env} {m : List Ent} {l : List Oper} {K : Env → List Ent → Prop} {S : List Ent} {fuel i j di dj Ti Tj : Nat} {done : List Nat} {oi oj : Oper} {ci cj : List Value}
/-- Two variables that may be made in either order. -/
theorem ExD.alloc2 (hi : l[i]? = some oi) (hj : l[j]? = some oj) (h2 : readyOk l done [i, j] = true) (h3 : nextOk l (i :: done) j = true) (h4 : nextOk l (j :: done) i = true) (hij : Nat.beq i j = false) (hdd : Nat.beq di dj = false)
    (hgi : wantB l env oi = some true) (hgj : wantB l env oj = some true) (hgi' : ∀ b, wantB l ((dj, .pointer (some ⟨b, 0, none⟩)) :: env) oi = some true) (hgj' : ∀ b, wantB l ((di, .pointer (some ⟨b, 0, none⟩)) :: env) oj = some true) (hS : S.Sublist m) (hai : Alc C oi di Ti ci) (haj : Alc C oj dj Tj cj)
    (h : ∀ bi bj, ExD C l S fuel (j :: i :: done) ((dj, .pointer (some ⟨bj, 0, none⟩)) :: (di, .pointer (some ⟨bi, 0, none⟩)) :: env) (.blk bj cj Tj :: .blk bi ci Ti :: m) K) : ExD C l S (fuel + 1 + 1) done env m K := by
  have hne : i ≠ j := fun e => by subst e; simp at hij
  have hne' : j ≠ i := fun e => hne e.symm
  have hdd' : Nat.beq dj di = false := by
    cases e : Nat.beq dj di with
    | false => rfl
    | true => rw [Nat.eq_of_beq_eq_true e] at hdd; simp at hdd
  refine ExD.ops h2 (by simp) fun k hk => ?_
  rcases List.mem_cons.1 hk with rfl | hk
  · exact ⟨oi, hi, hgi, hai _ _ _ fun bi => ⟨hS.cons _, ExD.op hj h3 (hgj' bi) (haj _ _ _ fun bj => ⟨(hS.cons _).cons _, h bi bj⟩)⟩⟩
  · obtain rfl : k = j := by simpa using hk
    exact ⟨oj, hj, hgj, haj _ _ _ fun bj => ⟨hS.cons _, ExD.op hi h4 (hgi' bj) (hai _ _ _ fun bi => ⟨(hS.cons _).cons _, ExD.swap hne hdd (List.Perm.swap _ _ _) (h bi bj)⟩)⟩⟩
end Go.Sx
namespace Go.Sx
open Go Go.RowKit
variable {C : Cx} {m : List Ent}
theorem layEnd {F : List Ent} {v E sz n cs xs} (hp : m.Perm (.row v E sz n cs :: .pile xs :: F)) : ∀ w, Holds C.base C.w0 m w → Holds C.base C.w0 (.pile (xs ++ [⟨v, E, sz, n, cs⟩]) :: F) w :=
  layHolds (ys := []) (by rw [List.append_nil]; exact hp)
end Go.Sx
namespace Go.Sx
open Go Go.RowKit
variable {C : Cx} {env : Env} {m : List Ent} {o : Oper}
theorem fr_shr40 {T x y T' p} (ho : o.op = .binOp .shr T x y T') (hx : ev env x = some (.int .u64 p)) (hy : ev env y = some (.int .u64 40)) : Free C o env m (.int .u64 (p / 1099511627776)) := by
  have := fr_shr (C := C) (m := m) ho hx hy (by omega)
  rwa [show (2 : Int) ^ min (40 : Int).toNat IntKind.u64.bits = 1099511627776 from rfl] at this
theorem wrapu_bd (e : Int) : 0 ≤ IntKind.u64.wrap e ∧ IntKind.u64.wrap e ≤ 18446744073709551615 := by rw [IntKind.wrap_u64]; omega
theorem fr_and255w {T x y T' e} (ho : o.op = .binOp .and T x y T') (hx : ev env x = some (.int .u64 (IntKind.u64.wrap e / 1099511627776))) (hy : ev env y = some (.int .u64 255)) : Free C o env m (.int .u64 (IntKind.u64.wrap e / 1099511627776 % 256)) := by
  have := fr_bits (C := C) (m := m) ho hx hy (.inl rfl)
  have hw := wrapu_bd e
  rwa [show bits .and .u64 (IntKind.u64.wrap e / 1099511627776) 255 = IntKind.u64.wrap e / 1099511627776 % 256 from bits_mask .u64 63 (by decide) (fun n h0 h1 => by rw [IntKind.wrap_u64]; omega) 8 (by decide) _ (by omega) (by omega)] at this
end Go.Sx
namespace Go.Sx
open Go Go.RowKit
variable {C : Cx} {env : Env} {m : List Ent} {l : List Oper} {K : Env → List Ent → Prop} {S : List Ent} {fuel i j di dj : Nat} {done : List Nat} {oi oj : Oper} {vi : Value}
end Go.Sx
namespace Go.Sx
open Go Go.RowKit
variable {C : Cx} {env env' : Env} {m : List Ent} {l : List Oper} {K : Env → List Ent → Prop} {S : List Ent} {fuel i j k di dj dk : Nat} {done done' : List Nat} {oi oj ok_ : Oper} {vi : Value}
theorem lst_perm {n : Nat} {d d' : List Nat} (h : d.Perm d') : lst n d = lst n d' := by
  unfold lst
  refine h.foldr_eq' (fun x _ y _ z => ?_) _
  by_cases e : x = y
  · subst e; rfl
  · exact (Array.setIfInBounds_comm _ _ e)
theorem ExD.rep (hd : done.Perm done') (he : ∀ t v, look env' t = some v → look env t = some v) (h : ExD C l S fuel done' env' m K) : ExD C l S fuel done env m K := by
  unfold ExD at h ⊢
  rw [lst_perm hd]
  intro a w hr hh
  exact h a w ⟨hr.def0, hr.size, fun t v ht => hr.at_ t v (he t v ht)⟩ hh
end Go.Sx

/- Strings; the library's builder of strings, walked. -/
set_option linter.unusedVariables false
set_option linter.unusedSimpArgs false
namespace Go.Sx
open Go Go.RowKit
variable {C : Cx} {env env' : Env} {m m' : List Ent} {o : Oper} {K : Env → List Ent → Prop}
/-- A string by its bytes. -/
abbrev sv (l : List UInt8) : Value := .string ⟨l.toArray⟩
/-! ### The builder -/
end Go.Sx

/- Arrays of arrays: an element of several cells, by a number that is reckoned. -/
namespace Go.Sx
open Go Go.RowKit
variable {C : Cx} {env : Env} {m : List Ent} {o : Oper}
theorem segB {α : Type} {f : α → List Value} {sz : Nat} {i b : Nat} {T} {xs : List α} {k : Nat} (hi : m[i]? = some (.blk b (xs.flatMap f) T)) (hf : ∀ x, (f x).length = sz) (d : α) (hk : k < xs.length) : SegO C m (some ⟨b, 0 + (k : Int).toNat * sz, none⟩) (f (xs.getD k d)) := by
  rw [Nat.zero_add, Int.toNat_natCast]
  refine SegO.blk hi fun j u hj => ?_
  have hlt : j < sz := by rw [← hf (xs.getD k d)]; exact (List.getElem?_eq_some_iff.1 hj).1
  rw [flat_get hf d xs k j hk hlt, hj]
theorem segOld {α : Type} {f : α → List Value} {sz : Nat} {b q : Nat} {xs : List α} {k : Nat} (H : Reads C m (some ⟨b, q, none⟩) (xs.flatMap f)) (hf : ∀ x, (f x).length = sz) (d : α) (hp : Nat.blt 0 sz = true) (hk : k < xs.length) : SegO C m (some ⟨b, q + (k : Int).toNat * sz, none⟩) (f (xs.getD k d)) := by
  have h := segN H hf hp d hk
  simpa [offA, add_at] using h
theorem fr_indexG {α : Type} {f : α → List Value} {sz : Nat} {xs : List α} {j : Nat} (hf : ∀ x, (f x).length = sz) (d : α) {S x y} {N : Nat} {E} {k} {dd} (ho : o.op = .index S x y) (hx : ev env x = some (.agg (List.toArray (xs.flatMap f)))) (hy : ev env y = some (.int k (j : Int))) (hS : C.P.underlying S = some (.array N E)) (hE : C.P.underlying E = some dd) (hd : aggD dd = true) (hs : (C.P.info? E).map (·.size) = some sz) (hN : xs.length = N) (hj : j < xs.length) : Free C o env m (.agg (f (xs.getD j d)).toArray) := by
  have := fr_indexN (C := C) (m := m) ho hx hy hS hE hd hs (by omega)
  rwa [Int.toNat_natCast, flat_seg hf d xs j hj] at this
theorem fr_sliceArr_h {T x y E k} {N b q0 : Nat} {q : Int} (h : Nat) (hq : q = (h : Nat)) (ho : o.op = .slice T x none (some y) none) (hx : ev env x = some (.pointer (some ⟨b, q0, none⟩))) (hy : ev env y = some (.int k q)) (hT : C.P.underlying T = some (.array N E)) {sz : Nat} (hs : (C.P.info? E).map (·.size) = some sz) (hN : Nat.blt 0 N = true) (hb : h ≤ N) : Free C o env m (.slice (some ⟨b, q0, none⟩) h N) := by
  subst hq
  intro a w hr _
  have hN0 : 0 < N := by simpa using hN
  have hal : C.P.arrayLen T = N := by simp [Program.arrayLen, hT]
  have he : C.P.elem T = E := by simp [Program.elem, hT]
  have ht' : C.P.underlying T = some (.array (C.P.arrayLen T) (C.P.elem T)) := by rw [hal, he, hT]
  have h2 := run_sliceAt_array_h (P := C.P) w T ⟨b, q0, none⟩ ht' k (h : Int) (by omega) (by omega)
  rw [he, run_sizeOf hs w, Result.andThen_ok, hal] at h2
  have h3 : slicedAt ⟨b, q0, none⟩ 0 ((h : Int).toNat) N sz = .slice (some ⟨b, q0, none⟩) h N := by
    unfold slicedAt
    rw [Int.toNat_natCast, if_neg (by omega), Nat.zero_mul, add_at, Nat.add_zero, Nat.sub_zero, Nat.sub_zero]
  rw [h3] at h2
  simp only [execOp, ho, hr.ev hx, Option.map_none, Option.map_some, hr.ev hy, Sem.run_bind, h2, Result.andThen_ok, Sem.run_pure]
theorem cellW {β : Type} {A : Option Addr} {f : β → List Value} {sz : Nat} {xs : List β} {i : Int} (j : Nat) {v : Value} {r : β} (H : Reads C m A (xs.flatMap f)) (hf : ∀ x, (f x).length = sz) (d : β) (k : Nat) (hk : Nat.blt k sz = true) (hi : i = (j : Int)) (hj : j < xs.length) (he : xs.getD j d = r) (hv : (f r)[k]? = some v) : CellO C m (offA A (i.toNat * sz + k)) v := by
  subst he; exact cellJ j H hf d k hk hi hj hv
theorem quo64 {d : Nat} (h : d < 1000000) : IntKind.i64.wrap ((d : Int).tdiv 64) = ((d / 64 : Nat) : Int) := by
  rw [Int.tdiv_eq_ediv_of_nonneg (by omega), IntKind.wrap_i64]; omega
end Go.Sx
namespace Go.Sx
open Go Go.RowKit
variable {C : Cx} {env : Env} {m : List Ent} {l : List Oper} {K : Env → List Ent → Prop} {S : List Ent} {fuel i j di dj : Nat} {done : List Nat} {oi oj o : Oper}
/-- Two that may come in either order, each way walked by itself. -/
theorem ExD.fork (hi : l[i]? = some oi) (hj : l[j]? = some oj) (h2 : readyOk l done [i, j] = true) (hgi : wantB l env oi = some true) (hgj : wantB l env oj = some true)
    (h : Op1 C oi env m fun env m => S.Sublist m ∧ ExD C l S fuel (i :: done) env m K) (h' : Op1 C oj env m fun env m => S.Sublist m ∧ ExD C l S fuel (j :: done) env m K) : ExD C l S (fuel + 1) done env m K := by
  refine ExD.ops h2 (by simp) fun k hk => ?_
  rcases List.mem_cons.1 hk with rfl | hk
  · exact ⟨oi, hi, hgi, h⟩
  · obtain rfl : k = j := by simpa using hk
    exact ⟨oj, hj, hgj, h'⟩
end Go.Sx

/- Slices of slices, copies. -/
set_option linter.unusedVariables false
set_option linter.unusedSimpArgs false
namespace Go.Sx
open Go Go.RowKit
variable {C : Cx} {env : Env} {m : List Ent} {o : Oper} {K : Env → List Ent → Prop}
theorem fr_slice_h {T x y E A n c k} {q : Int} (h : Nat) (hq : q = (h : Nat)) (ho : o.op = .slice T x none (some y) none) (hx : ev env x = some (.slice A n c)) (hy : ev env y = some (.int k q)) (hT : C.P.underlying T = some (.slice E)) {sz : Nat} (hs : (C.P.info? E).map (·.size) = some sz) (hb : h ≤ c) : Free C o env m (.slice A h c) := by
  subst hq
  intro a w hr _
  have ht' : C.P.underlying T = some (.slice (C.P.elem T)) := by simp [Program.elem, hT]
  have he : C.P.elem T = E := by simp [Program.elem, hT]
  have h2 := run_slice_h (P := C.P) w T A n c ht' k (h : Int) (by omega) (by omega)
  rw [he, run_sizeOf hs w, Result.andThen_ok] at h2
  have h3 : sliced A 0 ((h : Int).toNat) c sz = .slice A h c := by
    unfold sliced
    rw [Int.toNat_natCast, Nat.zero_mul, Nat.sub_zero, Nat.sub_zero]
    have : A.map (·.add 0) = A := by cases A <;> rfl
    rw [this]; simp
  rw [h3] at h2
  simp only [execOp, ho, hr.ev hx, Option.map_none, Option.map_some, hr.ev hy, run_sliceAt_slice w T _ _ _ _ ht', Sem.run_bind, h2, Result.andThen_ok, Sem.run_pure]
theorem Free.val {k : IntKind} {p : Int} (z : Int) (h : Free C o env m (.int k p)) (e : p = z) : Free C o env m (.int k z) := e ▸ h
end Go.Sx

/- Arrays of arrays compared with themselves. -/
set_option linter.unusedVariables false
set_option linter.unusedSimpArgs false
namespace Go.Sx
open Go Go.RowKit
variable {C : Cx} {env env' : Env} {m m' : List Ent} {o : Oper}
end Go.Sx
