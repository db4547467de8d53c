/- Several texts, one behind the other. -/
import Derived.Lib.AppendStr
import Derived.Lib.UnsafeStr
import Derived.Lib.Builder
import Derived.Laws.Concat
import Derived.Laws.IdiomStrings
import Derived.Laws.Externs
import Derived.Laws.CopyRow
import Derived.Shelf.Pu.Lays
import Derived.Shelf.Pu.Lower
import Derived.Lib.Strings
import Derived.Lib.Walk
import Derived.Lib.ConvBytes
import Derived.Lib.ParseIntBMem
import Derived.Lib.Hide
import Derived.Laws.Strings3
import Derived.Laws.Closers25
import Derived.Laws.Closers25b
import Derived.WalkKit
import Derived.BigCall
import Derived.BigGuard
import Derived.Shelf.Pu.ParseUintEmpty
import Derived.Shelf.Pu.ToError
import Derived.Shelf.Pu.ToErrorRange
import Derived.Lib.AtoiErrMem
import Derived.Test.YtejedjgajcjejaaDoorXaa
/- More rules: records compared. -/
set_option linter.unusedVariables false
set_option linter.unusedSimpArgs false
namespace Go.Sx
open Go Go.RowKit
variable {C : Cx} {env env' : Env} {m m' : List Ent} {o : Oper}
/-- The model finds x and y equal (b = true), or not. -/
def EqOk (P : Program) (d : Nat) (T : TypeId) (x y : Value) (b : Bool) : Prop := ∀ w, (Op.equalIn d T x y).run P w = .ok b w
def EqFs (P : Program) (d : Nat) (xs ys : List Value) (fs : List Field) (b : Bool) : Prop := ∀ w, (Op.eqFields d xs.toArray ys.toArray fs).run P w = .ok b w
theorem EqOk.int {P : Program} {d : Nat} {T : TypeId} {k : IntKind} {p q : Int} (hT : P.underlying T = some (.int k)) : EqOk P (d + 1) T (.int k p) (.int k q) (decide (p = q)) := fun w => by
  rw [run_equalIn_int w d T k k p q hT]; congr 1
theorem EqOk.bool {P : Program} {d : Nat} {T : TypeId} {p q : Bool} (hT : P.underlying T = some .bool) : EqOk P (d + 1) T (.bool p) (.bool q) (p == q) := fun w => run_equalIn_bool' w d T p q hT
theorem EqOk.str {P : Program} {d : Nat} {T : TypeId} {p q : ByteArray} (hT : P.underlying T = some .string) : EqOk P (d + 1) T (.string p) (.string q) (p.toList == q.toList) := fun w => run_equalIn_string w d T p q hT
theorem EqOk.ints {P : Program} {d : Nat} {t e : TypeId} {k : IntKind} {n : Nat} {i : TypeInfo} (hu : P.underlying t = some (.array n e)) (hi : P.info? e = some i) (hs : i.size = 1) (he : P.underlying e = some (.int k)) (xs ys : List Int) (hx : xs.length = n) (hy : ys.length = n) : EqOk P (d + 1 + 1) t (.agg (xs.flatMap (eI k)).toArray) (.agg (ys.flatMap (eI k)).toArray) (decide (xs = ys)) := fun w => by
  rw [run_equalIn_array w (d + 1) _ _ hu hi, show P.cellsOf e = 1 by simp [Program.cellsOf, hi, hs], List.range_eq_range']
  have := eqItems_ints he d xs ys (by omega) w n 0 (by omega)
  simpa using this
theorem EqOk.struct {P : Program} {d : Nat} {t : TypeId} {fs : Array Field} {fl : List Field} {xs ys : List Value} {b : Bool} (hu : P.underlying t = some (.struct fs)) (hfl : fs.toList = fl) (hp : P.stoodInHeld t = false) (h : EqFs P d xs ys fl b) : EqOk P (d + 1) t (.agg xs.toArray) (.agg ys.toArray) b := fun w => by
  have e : P.fieldsOf t = fs := by simp [Program.fieldsOf, hu]
  rw [run_equalIn_struct w d t _ _ (by rw [e]; exact hu) hp, e, hfl]
  exact h w
theorem EqFs.nil {P : Program} {d : Nat} {xs ys : List Value} : EqFs P d xs ys [] true := fun w => by simp [Op.eqFields]
theorem EqFs.step {P : Program} {d : Nat} {xs ys : List Value} {f : Field} {fs : List Field} {x y : Value} {b b' : Bool} (hn : (f.name != "_") = true) (px : ∀ w, (Go.part f.type xs.toArray f.offset).run P w = .ok x w) (py : ∀ w, (Go.part f.type ys.toArray f.offset).run P w = .ok y w) (he : EqOk P d f.type x y b) (h : EqFs P d xs ys fs b') : EqFs P d xs ys (f :: fs) (b && b') := fun w => by
  have hn' : f.name ≠ "_" := by simpa using hn
  simp only [Op.eqFields, hn', ne_eq, not_false_eq_true, if_true, Sem.run_bind, px w, py w, Result.andThen_ok, he w]
  cases b with
  | true => simp only [Bool.not_true, Bool.false_eq_true, if_false, Bool.true_and]; exact h w
  | false => simp
theorem EqFs.one {P : Program} {d : Nat} {xs ys : List Value} {f : Field} {fs : List Field} {x y : Value} {b b' : Bool} {dd : TypeDesc} (hn : (f.name != "_") = true) (hT : P.underlying f.type = some dd) (hd : aggD dd = false) (hx : xs[f.offset]? = some x) (hy : ys[f.offset]? = some y) (he : EqOk P d f.type x y b) (h : EqFs P d xs ys fs b') : EqFs P d xs ys (f :: fs) (b && b') :=
  EqFs.step hn (fun w => run_part1 hT hd (by simpa using hx) w) (fun w => run_part1 hT hd (by simpa using hy) w) he h
theorem EqFs.many {P : Program} {d : Nat} {xs ys : List Value} {f : Field} {fs : List Field} {cx cy : List Value} {b b' : Bool} {dd : TypeDesc} {n : Nat} (hn : (f.name != "_") = true) (hT : P.underlying f.type = some dd) (hd : aggD dd = true) (hs : (P.info? f.type).map (·.size) = some n) (hx : (xs.drop f.offset).take n = cx) (hy : (ys.drop f.offset).take n = cy) (he : EqOk P d f.type (.agg cx.toArray) (.agg cy.toArray) b) (h : EqFs P d xs ys fs b') : EqFs P d xs ys (f :: fs) (b && b') :=
  EqFs.step hn (fun w => by rw [run_partN hT hd hs w, hx]) (fun w => by rw [run_partN hT hd hs w, hy]) he h
theorem EqOk.as {P : Program} {d : Nat} {T : TypeId} {x y : Value} {b b' : Bool} (h : EqOk P d T x y b) (e : b = b') : EqOk P d T x y b' := e ▸ h
theorem fr_eql_rec {T x y T' b} {xs ys : List Value} (hq : EqOk C.P 10000 T (.agg xs.toArray) (.agg ys.toArray) b) (ho : o.op = .binOp .eql T x y T') (hx : ev env x = some (.agg xs.toArray)) (hy : ev env y = some (.agg ys.toArray)) (hg : C.P.eqGuardType C.P.depth T = false) : Free C o env m (.bool b) := by
  unfold Free
  intro a w hr _
  have h : (binOp .eql T (.agg xs.toArray) (.agg ys.toArray)).run C.P w = .ok (.bool b) w := by rw [run_eql_struct]; rw [hq w]; rfl
  simp only [execOp, ho, hr.ev hx, hr.ev hy, Sem.run_bind, guard_agg _ _ _ _ _ _ hg, Result.andThen_ok, h]; rfl
theorem fr_neq_rec {T x y T' b} {xs ys : List Value} (hq : EqOk C.P 10000 T (.agg xs.toArray) (.agg ys.toArray) b) (ho : o.op = .binOp .neq T x y T') (hx : ev env x = some (.agg xs.toArray)) (hy : ev env y = some (.agg ys.toArray)) (hg : C.P.eqGuardType C.P.depth T = false) : Free C o env m (.bool (!b)) := by
  unfold Free
  intro a w hr _
  have h : (binOp .neq T (.agg xs.toArray) (.agg ys.toArray)).run C.P w = .ok (.bool (!b)) w := by rw [run_neq_struct]; rw [hq w]; rfl
  simp only [execOp, ho, hr.ev hx, hr.ev hy, Sem.run_bind, guard_agg _ _ _ _ _ _ hg, Result.andThen_ok, h]; rfl
end Go.Sx
namespace Go.Sx
open Go Go.RowKit
variable {C : Cx} {env env' : Env} {m m' : List Ent} {Q Q' : Post}
/-! ### Loops in which a slice grows -/
structure HandA (V : Nat → Option Addr → Nat → Env) (Kp : Env) (M : Nat → Option Addr → Nat → List Ent) (Mk : List Ent) (I : Nat → Prop) (μ : Nat → Nat) (k : Nat) (A : Option Addr) (c : Nat) (env' : Env) (m' : List Ent) : Prop where
  out : Hand (X := Nat × Option Addr × Nat) (fun x => V x.1 x.2.1 x.2.2) Kp (fun x => M x.1 x.2.1 x.2.2) Mk (fun x => I x.1) (fun x => μ x.1) (k, A, c) env' m'
theorem HandA.of {V : Nat → Option Addr → Nat → Env} {Kp : Env} {M : Nat → Option Addr → Nat → List Ent} {Mk : List Ent} {I : Nat → Prop} {μ : Nat → Nat} {k : Nat} {A : Option Addr} {c : Nat} (k' : Nat) (A' : Option Addr) (c' : Nat) (t : Nat) (is : List Nat) (hV : Agree (V k' A' c') env') (hK : Agree Kp env') (hM : pickT m' t is = some (M k' A' c' ++ Mk)) (hf : freshT t is = true) (hI : I k') (hlt : μ k' < μ k) : HandA V Kp M Mk I μ k A c env' m' :=
  ⟨Hand.mk (k', A', c') t is hV hK hM hf hI hlt⟩
theorem Ex.loopA {c : Code} (V : Nat → Option Addr → Nat → Env) (M : Nat → Option Addr → Nat → List Ent) (I : Nat → Prop) (μ : Nat → Nat) (k0 : Nat) (A0 : Option Addr) (c0 : Nat) (Kp : Env) (Mk : List Ent) (t : Nat) (is : List Nat) (hV : Agree (V k0 A0 c0) env) (hK : Agree Kp env) (hM : pickT m t is = some (M k0 A0 c0 ++ Mk)) (hf : freshT t is = true) (h0 : I k0)
    (hr : ∀ k A cc, I k → Ex C c (V k A cc ++ Kp) (M k A cc ++ Mk) (Sq (HandA V Kp M Mk I μ k A cc) Q)) : Ex C (.loop c) env m Q :=
  Ex.loopK (X := Nat × Option Addr × Nat) (fun x => V x.1 x.2.1 x.2.2) (fun x => M x.1 x.2.1 x.2.2) (fun x => I x.1) (fun x => μ x.1) (k0, A0, c0) Kp Mk t is hV hK hM hf h0 (fun x hI => (hr x.1 x.2.1 x.2.2 hI).mono (fun e env m h => by
    cases e with
    | normal => exact h.out
    | exit k => exact h
    | goto k => exact h
    | ret => exact h
    | panic k => exact h
    | outgrown => exact h))
structure HandB (V : Nat → Option Addr → Nat → Option Addr → Nat → Env) (Kp : Env) (M : Nat → Option Addr → Nat → Option Addr → Nat → List Ent) (Mk : List Ent) (I : Nat → Prop) (μ : Nat → Nat) (k : Nat) (A : Option Addr) (c : Nat) (A2 : Option Addr) (c2 : Nat) (env' : Env) (m' : List Ent) : Prop where
  out : Hand (X := Nat × Option Addr × Nat × Option Addr × Nat) (fun x => V x.1 x.2.1 x.2.2.1 x.2.2.2.1 x.2.2.2.2) Kp (fun x => M x.1 x.2.1 x.2.2.1 x.2.2.2.1 x.2.2.2.2) Mk (fun x => I x.1) (fun x => μ x.1) (k, A, c, A2, c2) env' m'
theorem HandB.of {V : Nat → Option Addr → Nat → Option Addr → Nat → Env} {Kp : Env} {M : Nat → Option Addr → Nat → Option Addr → Nat → List Ent} {Mk : List Ent} {I : Nat → Prop} {μ : Nat → Nat} {k : Nat} {A : Option Addr} {c : Nat} {A2 : Option Addr} {c2 : Nat} (k' : Nat) (A' : Option Addr) (c' : Nat) (A2' : Option Addr) (c2' : Nat) (t : Nat) (is : List Nat) (hV : Agree (V k' A' c' A2' c2') env') (hK : Agree Kp env') (hM : pickT m' t is = some (M k' A' c' A2' c2' ++ Mk)) (hf : freshT t is = true) (hI : I k') (hlt : μ k' < μ k) : HandB V Kp M Mk I μ k A c A2 c2 env' m' :=
  ⟨Hand.mk (k', A', c', A2', c2') t is hV hK hM hf hI hlt⟩
theorem Ex.loopB {c : Code} (V : Nat → Option Addr → Nat → Option Addr → Nat → Env) (M : Nat → Option Addr → Nat → Option Addr → Nat → List Ent) (I : Nat → Prop) (μ : Nat → Nat) (k0 : Nat) (A0 : Option Addr) (c0 : Nat) (B0 : Option Addr) (e0 : Nat) (Kp : Env) (Mk : List Ent) (t : Nat) (is : List Nat) (hV : Agree (V k0 A0 c0 B0 e0) env) (hK : Agree Kp env) (hM : pickT m t is = some (M k0 A0 c0 B0 e0 ++ Mk)) (hf : freshT t is = true) (h0 : I k0)
    (hr : ∀ k A cc A2 c2, I k → Ex C c (V k A cc A2 c2 ++ Kp) (M k A cc A2 c2 ++ Mk) (Sq (HandB V Kp M Mk I μ k A cc A2 c2) Q)) : Ex C (.loop c) env m Q :=
  Ex.loopK (X := Nat × Option Addr × Nat × Option Addr × Nat) (fun x => V x.1 x.2.1 x.2.2.1 x.2.2.2.1 x.2.2.2.2) (fun x => M x.1 x.2.1 x.2.2.1 x.2.2.2.1 x.2.2.2.2) (fun x => I x.1) (fun x => μ x.1) (k0, A0, c0, B0, e0) Kp Mk t is hV hK hM hf h0 (fun x hI => (hr x.1 x.2.1 x.2.2.1 x.2.2.2.1 x.2.2.2.2 hI).mono (fun e env m h => by
    cases e with
    | normal => exact h.out
    | exit k => exact h
    | goto k => exact h
    | ret => exact h
    | panic k => exact h
    | outgrown => exact h))
end Go.Sx
namespace Go.Sx
open Go Go.RowKit
variable {C : Cx} {env env' : Env} {m m' : List Ent} {o : Oper} {K : Env → List Ent → Prop}
/-! ### Cells written one behind the other -/
theorem over_cell {M L : List Value} {p q : Nat} {v : Value} (hl : M.length = L.length) (hp : p < L.length) (hq : q = p) (hv : M[p]? = some v) : put (over M L p) q [v] = over M L (p + 1) := by
  subst hq
  have := over_put (f := fun v => [v]) (sz := 1) (fun _ => rfl) undef (d' := M) (d := L) hl hp (i := q) (by omega) (v := [v]) (by simp [List.getD, hv])
  simpa using this
theorem over_roomC {M L : List Value} {p q : Nat} {new : List Value} (hl : M.length = L.length) (hp : p < L.length) (hq : q = p) (hn : new.length = 1) : q + new.length ≤ (over M L p).length := by
  rw [over_len hl, hn]; omega
theorem op_storeRowF {i k n c : Nat} {A T E sz xs ys x y v new n'} (ho : o.op = .store T x y) (hx : ev env x = some (.pointer (offA A k))) (hy : ev env y = some v) (hc : v.cells = List.toArray new) (hone : new.all (·.oneCell') = true) (hs : (C.P.info? T).map (·.size) = some n') (hn : Nat.beq new.length n' = true) (hi : m[i]? = some (.row (.slice A n c) E sz n xs)) (hk : k + new.length ≤ xs.length) (hne : new ≠ []) (hd : o.dst = none) (hput : put xs k new = ys)
    (h : K env (m.set i (.row (.slice A n c) E sz n ys))) : Op1 C o env m K := by
  subst hput
  exact op_storeRow ho hx hy hc hone hs hn hi hk hne hd h
end Go.Sx
namespace Go.Sx
open Go Go.RowKit
variable {C : Cx} {env : Env} {m : List Ent} {o : Oper}
theorem fr_fieldAddrR (j : Nat) {S x} {k q : Nat} {fs : Array Field} {g : Field} {n' n c E sz : Nat} {A : Option Addr} {xs : List Value} (hm : m[j]? = some (.row (.slice A n c) E sz n xs)) (hn0 : 0 < n) (ho : o.op = .fieldAddr S x k) (hx : ev env x = some (.pointer (offA A q))) (hS : C.P.underlying S = some (.struct fs)) (hg : fs[k]? = some g) (hs : (C.P.info? g.type).map (·.size) = some n') (hn : Nat.beq n' 0 = false) : Free C o env m (.pointer (offA A (q + g.offset))) := by
  have key := fun hA => fr_fieldAddr_o (C := C) (m := m) (o := o) (f := g) ho hx hA hS hg hs hn
  unfold Free at key ⊢
  exact fun a w hr hw => key ((row_some hm w hw).2.2.2 hn0) a w hr hw
end Go.Sx
namespace Go.Sx
open Go Go.RowKit
variable {C : Cx} {env env' : Env} {m m' : List Ent} {l : List Oper} {o oi oj : Oper} {K : Env → List Ent → Prop} {S : List Ent} {fuel : Nat} {done : List Nat} {i j di dj : Nat} {T : TypeId} {cs : List Value}
/-! ### A variable made at any time beside a chain of calls -/
theorem ExD.swap {v p : Value} (hne : i ≠ j) (hd : Nat.beq di dj = false) (hp : m'.Perm m) (h : ExD C l S fuel (j :: i :: done) ((dj, p) :: (di, v) :: env) m K) : ExD C l S fuel (i :: j :: done) ((di, v) :: (dj, p) :: env) m' K := by
  unfold ExD at h ⊢
  rw [lst_two l.length i j done hne]
  intro a w hr hh
  refine h a w ⟨hr.def0, hr.size, fun t v ht => hr.at_ t v ?_⟩ (hh.perm hp)
  simp only [look] at ht ⊢
  cases e1 : Nat.beq dj t with
  | true =>
    have e := Nat.eq_of_beq_eq_true e1
    subst e
    simp only [hd, e1, cond_true, cond_false] at ht ⊢; exact ht
  | false =>
    rw [e1] at ht
    cases e2 : Nat.beq di t with
    | true => simp only [e2, e1, cond_true, cond_false] at ht ⊢; exact ht
    | false => simp only [e2, e1, cond_true, cond_false] at ht ⊢; exact ht
/-- The operation makes a variable, whatever stands. -/
def Alc (C : Cx) (o : Oper) (d : Nat) (T : TypeId) (cs : List Value) : Prop := ∀ env m K, (∀ b, K ((d, .pointer (some ⟨b, 0, none⟩)) :: env) (.blk b cs T :: m)) → Op1 C o env m K
theorem Alc.of {d : Nat} {z} (ho : o.op = .alloc T) (hz : (C.P.info? T).bind (·.zero) = some z) (hc : z.cells = List.toArray cs) (hd : o.dst = some d) (hlt : Nat.blt d C.n = true) : Alc C o d T cs := fun _ _ _ h => op_alloc ho hz hc hd hlt h
/-- What is left, where the variable of j is not made yet; and what is left where it is. -/
def ExDF (C : Cx) (l : List Oper) (S : List Ent) (fuel : Nat) (done : List Nat) (env : Env) (m : List Ent) (K : Env → List Ent → Prop) (j dj : Nat) (T : TypeId) (cs : List Value) : Prop :=
  ExD C l S (fuel + 1) done env m K ∧ ∀ b, ExD C l S fuel (j :: done) ((dj, .pointer (some ⟨b, 0, none⟩)) :: env) (.blk b cs T :: m) K
theorem ExDF.start (j : Nat) (_ : l[j]? = some oj) (_ : Alc C oj dj T cs) (h : ExDF C l S fuel done env m K j dj T cs) : ExD C l S (fuel + 1) done env m K := h.1
theorem ExDF.step {X : Type} {v : X → Value} {n : X → List Ent} {H : X → Prop} (hi : l[i]? = some oi) (hj : l[j]? = some oj) (h2 : readyOk l done [i, j] = true) (h4 : nextOk l (j :: done) i = true) (hij : Nat.beq i j = false)
    (hgi : wantB l env oi = some true) (hgj : wantB l env oj = some true) (hgi' : ∀ b, wantB l ((dj, .pointer (some ⟨b, 0, none⟩)) :: env) oi = some true) (hdd : Nat.beq di dj = false) (hS : S.Sublist m) (ha : Alc C oj dj T cs)
    (ci : ∀ K', (∀ x, H x → K' ((di, v x) :: env) (n x ++ m)) → Op1 C oi env m K')
    (ci' : ∀ b, ∀ K', (∀ x, H x → K' ((di, v x) :: (dj, .pointer (some ⟨b, 0, none⟩)) :: env) (n x ++ .blk b cs T :: m)) → Op1 C oi ((dj, .pointer (some ⟨b, 0, none⟩)) :: env) (.blk b cs T :: m) K')
    (h : ∀ x, H x → ExDF C l S fuel (i :: done) ((di, v x) :: env) (n x ++ m) K j dj T cs) : ExDF C l S (fuel + 1) done env m K j dj T cs := by
  have hne : i ≠ j := fun e => by subst e; simp at hij
  have h5 : ∀ b, ExD C l S (fuel + 1) (j :: done) ((dj, .pointer (some ⟨b, 0, none⟩)) :: env) (.blk b cs T :: m) K := fun b =>
    ExD.op hi h4 (hgi' b) (ci' b _ fun x hx => ⟨(hS.cons _).trans (List.sublist_append_right _ _), ExD.swap hne hdd List.perm_middle ((h x hx).2 b)⟩)
  refine ⟨ExD.ops h2 (by simp) fun k hk => ?_, h5⟩
  rcases List.mem_cons.1 hk with rfl | hk
  · exact ⟨oi, hi, hgi, ci _ fun x hx => ⟨hS.trans (List.sublist_append_right _ _), (h x hx).1⟩⟩
  · obtain rfl : k = j := by simpa using hk
    exact ⟨oj, hj, hgj, ha _ _ _ fun b => ⟨hS.cons _, h5 b⟩⟩
theorem ExDF.take {v : Value} (hi : l[i]? = some o) (ht : takeOk l done i = true) (ht' : takeOk l (j :: done) i = true) (hij : Nat.beq i j = false) (hf : Free C o env S v) (hf' : ∀ b, Free C o ((dj, .pointer (some ⟨b, 0, none⟩)) :: env) S v) (hS : S.Sublist m) (hg : wantB l env o = some true) (hg' : ∀ b, wantB l ((dj, .pointer (some ⟨b, 0, none⟩)) :: env) o = some true)
    (hd : o.dst = some di) (hlt : Nat.blt di C.n = true) (hdd : Nat.beq di dj = false) (h : ExDF C l S fuel (i :: done) ((di, v) :: env) m K j dj T cs) : ExDF C l S (fuel + 1) done env m K j dj T cs :=
  have hne : i ≠ j := fun e => by subst e; simp at hij
  ⟨ExD.take hi ht hf hS hg hd hlt h.1, fun b => ExD.take hi ht' (hf' b) (hS.cons _) (hg' b) hd hlt (ExD.swap hne hdd (List.Perm.refl _) (h.2 b))⟩
theorem ExDF.fin (hj : l[j]? = some oj) (hn : nextOk l done j = true) (hg : wantB l env oj = some true) (hS : S.Sublist m) (ha : Alc C oj dj T cs) (h : ∀ b, ExD C l S fuel (j :: done) ((dj, .pointer (some ⟨b, 0, none⟩)) :: env) (.blk b cs T :: m) K) : ExDF C l S fuel done env m K j dj T cs :=
  ⟨ExD.op hj hn hg (ha _ _ _ fun b => ⟨hS.cons _, h b⟩), h⟩
end Go.Sx
namespace Go.Sx
open Go Go.RowKit
theorem t4 {a b c d a' b' c' d' : Value} (h : a = a') (h1 : b = b') (h2 : c = c') (h3 : d = d') : tupleOf [a, b, c, d] = .tuple #[a', b', c', d'] := by rw [h, h1, h2, h3]; rfl
theorem t5 {a b c d e a' b' c' d' e' : Value} (h : a = a') (h1 : b = b') (h2 : c = c') (h3 : d = d') (h4 : e = e') : tupleOf [a, b, c, d, e] = .tuple #[a', b', c', d', e'] := by rw [h, h1, h2, h3, h4]; rfl
end Go.Sx
namespace Go.Sx
open Go Go.RowKit
theorem perm_4 {m : List Ent} {a b c d : Ent} (i j k l : Nat) (h1 : m[i]? = some a) (h2 : (m.eraseIdx i)[j]? = some b) (h3 : ((m.eraseIdx i).eraseIdx j)[k]? = some c) (h4 : (((m.eraseIdx i).eraseIdx j).eraseIdx k)[l]? = some d) : m.Perm ([a, b, c, d] ++ (((m.eraseIdx i).eraseIdx j).eraseIdx k).eraseIdx l) :=
  (perm_at h1).trans (List.Perm.cons a ((perm_at h2).trans (List.Perm.cons b ((perm_at h3).trans (List.Perm.cons c (perm_at h4))))))
end Go.Sx
namespace Go.Sx
open Go Go.RowKit
variable {C : Cx} {env : Env} {m : List Ent} {o : Oper}
theorem fr_indexAddrRo (j0 : Nat) {S x y E N} {q sz' n c E' sz : Nat} {kk : IntKind} {j : Int} {A : Option Addr} {xs : List Value} (hm : m[j0]? = some (.row (.slice A n c) E' sz n xs)) (hn0 : 0 < n) (ho : o.op = .indexAddr S x y) (hx : ev env x = some (.pointer (offA A q))) (hy : ev env y = some (.int kk j)) (hS : C.P.underlying S = some (.array N E)) (hs : (C.P.info? E).map (·.size) = some sz') (hj : 0 ≤ j ∧ j < (N : Nat)) : Free C o env m (.pointer (offA A (q + j.toNat * sz'))) := by
  have key := fun hA => fr_indexAddr_o (C := C) (m := m) (o := o) ho hx hA hy hS hs hj
  unfold Free at key ⊢
  exact fun a w hr hw => key ((row_some hm w hw).2.2.2 hn0) a w hr hw
end Go.Sx

/- Rows that are only read: laid on a pile, and taken off it. -/
namespace Go.Sx
open Go Go.RowKit
variable {C : Cx} {env : Env} {m m' : List Ent} {Q : Post} {l rest : List Oper} {K : Env → List Ent → Prop}
theorem Rw.apart_comm {r s : Rw} (h : r.apart s) : s.apart r := fun b hb hr => h b hr hb
theorem Holds.pile0 {base w0 w} (h : Holds base w0 m w) : Holds base w0 (.pile [] :: m) w := by
  refine ⟨h.below, h.le, fun e he => ?_, List.pairwise_cons.2 ⟨fun f hf b hb => ?_, h.apart⟩, h.others⟩
  · rcases List.mem_cons.1 he with rfl | he
    · exact ⟨fun r hr => (nomatch hr), List.Pairwise.nil⟩
    · exact h.all e he
  · obtain ⟨r, hr, _⟩ := hb; cases hr
theorem Holds.lay {base w0 w} {r : Rw} {xs ys : List Rw} (h : Holds base w0 (.row r.v r.E r.sz r.n r.xs :: .pile (xs ++ ys) :: m) w) : Holds base w0 (.pile (xs ++ r :: ys) :: m) w := by
  have hr := h.all _ (List.mem_cons_self ..)
  have hp := h.all (.pile (xs ++ ys)) (by simp)
  obtain ⟨ha1, ha⟩ := List.pairwise_cons.1 h.apart
  obtain ⟨ha2, ha3⟩ := List.pairwise_cons.1 ha
  refine ⟨h.below, h.le, fun e he => ?_, List.pairwise_cons.2 ⟨fun f hf b hb => ?_, ha3⟩, h.others⟩
  · rcases List.mem_cons.1 he with rfl | he
    · refine ⟨fun s hs => ?_, ?_⟩
      · rcases List.mem_append.1 hs with hs | hs
        · exact hp.1 s (List.mem_append.2 (.inl hs))
        · rcases List.mem_cons.1 hs with rfl | hs
          · exact hr
          · exact hp.1 s (List.mem_append.2 (.inr hs))
      · refine (List.perm_middle.pairwise_iff fun h => Rw.apart_comm h).2 (List.pairwise_cons.2 ⟨fun s hs b hb hb2 => ?_, hp.2⟩)
        exact ha1 (.pile (xs ++ ys)) (by simp) b hb ⟨s, hs, hb2⟩
    · exact h.all e (by simp [he])
  · obtain ⟨s, hs, hb⟩ := hb
    rcases List.mem_append.1 hs with hs | hs
    · exact ha2 f hf b ⟨s, List.mem_append.2 (.inl hs), hb⟩
    · rcases List.mem_cons.1 hs with rfl | hs
      · exact ha1 f (by simp [hf]) b hb
      · exact ha2 f hf b ⟨s, List.mem_append.2 (.inr hs), hb⟩
theorem Holds.lift {base w0 w} {r : Rw} {xs ys : List Rw} (h : Holds base w0 (.pile (xs ++ r :: ys) :: m) w) : Holds base w0 (.row r.v r.E r.sz r.n r.xs :: .pile (xs ++ ys) :: m) w := by
  have hp := h.all (.pile (xs ++ r :: ys)) (by simp)
  obtain ⟨ha1, ha⟩ := List.pairwise_cons.1 h.apart
  obtain ⟨hq1, hq2⟩ := List.pairwise_cons.1 ((List.perm_middle.pairwise_iff fun h => Rw.apart_comm h).1 hp.2)
  have hin : ∀ s, s ∈ xs ++ ys → s ∈ xs ++ r :: ys := fun s hs => by
    rcases List.mem_append.1 hs with hs | hs
    · exact List.mem_append.2 (.inl hs)
    · exact List.mem_append.2 (.inr (List.mem_cons_of_mem _ hs))
  have hr : r ∈ xs ++ r :: ys := List.mem_append.2 (.inr (List.mem_cons_self ..))
  refine ⟨h.below, h.le, fun e he => ?_, List.pairwise_cons.2 ⟨fun f hf b hb => ?_, List.pairwise_cons.2 ⟨fun f hf b hb => ?_, ha⟩⟩, h.others⟩
  · rcases List.mem_cons.1 he with rfl | he
    · exact hp.1 r hr
    · rcases List.mem_cons.1 he with rfl | he
      · exact ⟨fun s hs => hp.1 s (hin s hs), hq2⟩
      · exact h.all e (by simp [he])
  · rcases List.mem_cons.1 hf with rfl | hf
    · rintro ⟨s, hs, hb2⟩
      exact hq1 s hs b hb hb2
    · exact ha1 f hf b ⟨r, hr, hb⟩
  · obtain ⟨s, hs, hb⟩ := hb
    exact ha1 f hf b ⟨s, hin s hs, hb⟩
theorem Ex.conv {c : Code} (hc : ∀ w, Holds C.base C.w0 m w → Holds C.base C.w0 m' w) (k : Ex C c env m' Q) : Ex C c env m Q := fun a w hr hh => k a w hr (hc w hh)
theorem ExL.conv (hc : ∀ w, Holds C.base C.w0 m w → Holds C.base C.w0 m' w) (k : ExL C l rest env m' K) : ExL C l rest env m K := fun a w hr hh => k a w hr (hc w hh)
theorem ExD.conv {S fuel done} (hc : ∀ w, Holds C.base C.w0 m w → Holds C.base C.w0 m' w) (k : ExD C l S fuel done env m' K) : ExD C l S fuel done env m K := fun a w hr hh => k a w hr (hc w hh)
/-- An empty pile. -/
theorem Ex.pile0 {c : Code} (k : Ex C c env (.pile [] :: m) Q) : Ex C c env m Q := Ex.conv (fun _ h => h.pile0) k
theorem ExL.pile0 (k : ExL C l rest env (.pile [] :: m) K) : ExL C l rest env m K := ExL.conv (fun _ h => h.pile0) k
theorem layHolds {F : List Ent} {v E sz n cs xs ys} (hp : m.Perm (.row v E sz n cs :: .pile (xs ++ ys) :: F)) : ∀ w, Holds C.base C.w0 m w → Holds C.base C.w0 (.pile (xs ++ ⟨v, E, sz, n, cs⟩ :: ys) :: F) w :=
  fun _ h => Holds.lay (r := ⟨v, E, sz, n, cs⟩) (h.perm hp)
theorem liftHolds {F : List Ent} {r : Rw} {xs ys} (hp : m.Perm (.pile (xs ++ r :: ys) :: F)) : ∀ w, Holds C.base C.w0 m w → Holds C.base C.w0 (.row r.v r.E r.sz r.n r.xs :: .pile (xs ++ ys) :: F) w :=
  fun _ h => Holds.lift (h.perm hp)
theorem Reads.pile {i : Nat} {rs : List Rw} {A n c E sz cs} (hi : m[i]? = some (.pile rs)) (hr : (⟨.slice A n c, E, sz, n, cs⟩ : Rw) ∈ rs) : Reads C m A cs := by
  have h : ∀ w, Holds C.base C.w0 m w → Rd w A cs := fun w hw => by
    have h1 := hw.all _ (List.mem_of_getElem? hi)
    have h2 : Ent.holds C.base w (.row (.slice A n c) E sz n cs) := h1.1 _ hr
    have h3 : Holds C.base C.w0 [.row (.slice A n c) E sz n cs] w := ⟨hw.below, hw.le, fun e he => by simp at he; subst he; exact h2, by simp, hw.others⟩
    have h4 : Reads C [.row (.slice A n c) E sz n cs] A cs := Reads.row (i := 0) rfl
    unfold Reads at h4
    exact h4 w h3
  unfold Reads
  exact h
end Go.Sx
namespace Go.Sx
open Go Go.RowKit
variable {C : Cx} {env : Env} {m : List Ent} {l : List Oper} {K : Env → List Ent → Prop} {S : List Ent} {fuel i j di dj Ti Tj : Nat} {done : List Nat} {oi oj : Oper} {ci cj : List Value}
/-- Two variables that may be made in either order. -/
theorem ExD.alloc2 (hi : l[i]? = some oi) (hj : l[j]? = some oj) (h2 : readyOk l done [i, j] = true) (h3 : nextOk l (i :: done) j = true) (h4 : nextOk l (j :: done) i = true) (hij : Nat.beq i j = false) (hdd : Nat.beq di dj = false)
    (hgi : wantB l env oi = some true) (hgj : wantB l env oj = some true) (hgi' : ∀ b, wantB l ((dj, .pointer (some ⟨b, 0, none⟩)) :: env) oi = some true) (hgj' : ∀ b, wantB l ((di, .pointer (some ⟨b, 0, none⟩)) :: env) oj = some true) (hS : S.Sublist m) (hai : Alc C oi di Ti ci) (haj : Alc C oj dj Tj cj)
    (h : ∀ bi bj, ExD C l S fuel (j :: i :: done) ((dj, .pointer (some ⟨bj, 0, none⟩)) :: (di, .pointer (some ⟨bi, 0, none⟩)) :: env) (.blk bj cj Tj :: .blk bi ci Ti :: m) K) : ExD C l S (fuel + 1 + 1) done env m K := by
  have hne : i ≠ j := fun e => by subst e; simp at hij
  have hne' : j ≠ i := fun e => hne e.symm
  have hdd' : Nat.beq dj di = false := by
    cases e : Nat.beq dj di with
    | false => rfl
    | true => rw [Nat.eq_of_beq_eq_true e] at hdd; simp at hdd
  refine ExD.ops h2 (by simp) fun k hk => ?_
  rcases List.mem_cons.1 hk with rfl | hk
  · exact ⟨oi, hi, hgi, hai _ _ _ fun bi => ⟨hS.cons _, ExD.op hj h3 (hgj' bi) (haj _ _ _ fun bj => ⟨(hS.cons _).cons _, h bi bj⟩)⟩⟩
  · obtain rfl : k = j := by simpa using hk
    exact ⟨oj, hj, hgj, haj _ _ _ fun bj => ⟨hS.cons _, ExD.op hi h4 (hgi' bj) (hai _ _ _ fun bi => ⟨(hS.cons _).cons _, ExD.swap hne hdd (List.Perm.swap _ _ _) (h bi bj)⟩)⟩⟩
end Go.Sx
namespace Go.Sx
open Go Go.RowKit
variable {C : Cx} {m : List Ent}
theorem layEnd {F : List Ent} {v E sz n cs xs} (hp : m.Perm (.row v E sz n cs :: .pile xs :: F)) : ∀ w, Holds C.base C.w0 m w → Holds C.base C.w0 (.pile (xs ++ [⟨v, E, sz, n, cs⟩]) :: F) w :=
  layHolds (ys := []) (by rw [List.append_nil]; exact hp)
theorem liftAt {F : List Ent} {r : Rw} {rs xs ys} (he : rs = xs ++ r :: ys) (hp : m.Perm (.pile rs :: F)) : ∀ w, Holds C.base C.w0 m w → Holds C.base C.w0 (.row r.v r.E r.sz r.n r.xs :: .pile (xs ++ ys) :: F) w := by
  subst he; exact liftHolds hp
end Go.Sx
namespace Go.Sx
open Go Go.RowKit
variable {C : Cx} {env : Env} {m : List Ent} {o : Oper}
theorem fr_shr40 {T x y T' p} (ho : o.op = .binOp .shr T x y T') (hx : ev env x = some (.int .u64 p)) (hy : ev env y = some (.int .u64 40)) : Free C o env m (.int .u64 (p / 1099511627776)) := by
  have := fr_shr (C := C) (m := m) ho hx hy (by omega)
  rwa [show (2 : Int) ^ min (40 : Int).toNat IntKind.u64.bits = 1099511627776 from rfl] at this
theorem wrapu_bd (e : Int) : 0 ≤ IntKind.u64.wrap e ∧ IntKind.u64.wrap e ≤ 18446744073709551615 := by rw [IntKind.wrap_u64]; omega
theorem fr_and255w {T x y T' e} (ho : o.op = .binOp .and T x y T') (hx : ev env x = some (.int .u64 (IntKind.u64.wrap e / 1099511627776))) (hy : ev env y = some (.int .u64 255)) : Free C o env m (.int .u64 (IntKind.u64.wrap e / 1099511627776 % 256)) := by
  have := fr_bits (C := C) (m := m) ho hx hy (.inl rfl)
  have hw := wrapu_bd e
  rwa [show bits .and .u64 (IntKind.u64.wrap e / 1099511627776) 255 = IntKind.u64.wrap e / 1099511627776 % 256 from bits_mask .u64 63 (by decide) (fun n h0 h1 => by rw [IntKind.wrap_u64]; omega) 8 (by decide) _ (by omega) (by omega)] at this
end Go.Sx
namespace Go.Sx
open Go Go.RowKit
variable {C : Cx} {env : Env} {m : List Ent} {l : List Oper} {K : Env → List Ent → Prop} {S : List Ent} {fuel i j di dj : Nat} {done : List Nat} {oi oj : Oper} {vi : Value}
/-- A free operation and a call, in either order. -/
theorem ExD.freeCall {X : Type} {v : X → Value} {n : X → List Ent} {H : X → Prop} (hi : l[i]? = some oi) (hj : l[j]? = some oj) (h2 : readyOk l done [i, j] = true ∨ readyOk l done [j, i] = true) (h3 : nextOk l (i :: done) j = true) (h4 : nextOk l (j :: done) i = true) (hij : Nat.beq i j = false) (hdd : Nat.beq di dj = false)
    (hgi : wantB l env oi = some true) (hgj : wantB l env oj = some true) (hgi' : ∀ x, wantB l ((dj, v x) :: env) oi = some true) (hgj' : wantB l ((di, vi) :: env) oj = some true) (hdi : oi.dst = some di) (hli : Nat.blt di C.n = true) (hS : S.Sublist m)
    (fi : Free C oi env m vi)
    (cj : ∀ K', (∀ x, H x → K' ((dj, v x) :: env) (n x)) → Op1 C oj env m K')
    (cj' : ∀ K', (∀ x, H x → K' ((dj, v x) :: (di, vi) :: env) (n x)) → Op1 C oj ((di, vi) :: env) m K')
    (hS' : ∀ x, S.Sublist (n x)) (fi' : ∀ x, H x → Free C oi ((dj, v x) :: env) (n x) vi)
    (h : ∀ x, H x → ExD C l S fuel (j :: i :: done) ((dj, v x) :: (di, vi) :: env) (n x) K) : ExD C l S (fuel + 1 + 1) done env m K := by
  have hne : i ≠ j := fun e => by subst e; simp at hij
  have key : ∀ k, k = i ∨ k = j → ∃ o, l[k]? = some o ∧ wantB l env o = some true ∧ Op1 C o env m (fun env m => S.Sublist m ∧ ExD C l S (fuel + 1) (k :: done) env m K) := by
    rintro k (rfl | rfl)
    · exact ⟨oi, hi, hgi, Op1.of_free fi hdi hli ⟨hS, ExD.op hj h3 hgj' (cj' _ fun x hx => ⟨hS' x, h x hx⟩)⟩⟩
    · exact ⟨oj, hj, hgj, cj _ fun x hx => ⟨hS' x, ExD.op hi h4 (hgi' x) (Op1.of_free (fi' x hx) hdi hli ⟨hS' x, ExD.swap hne hdd (List.Perm.refl _) (h x hx)⟩)⟩⟩
  rcases h2 with h2 | h2
  · exact ExD.ops h2 (by simp) fun k hk => key k (by simpa using hk)
  · exact ExD.ops h2 (by simp) fun k hk => key k (by have := hk; simp at this; omega)
end Go.Sx
namespace Go.Sx
open Go Go.RowKit
variable {C : Cx} {env env' : Env} {m : List Ent} {l : List Oper} {K : Env → List Ent → Prop} {S : List Ent} {fuel i j k di dj dk : Nat} {done done' : List Nat} {oi oj ok_ : Oper} {vi : Value}
theorem lst_perm {n : Nat} {d d' : List Nat} (h : d.Perm d') : lst n d = lst n d' := by
  unfold lst
  refine h.foldr_eq' (fun x _ y _ z => ?_) _
  by_cases e : x = y
  · subst e; rfl
  · exact (Array.setIfInBounds_comm _ _ e)
theorem ExD.rep (hd : done.Perm done') (he : ∀ t v, look env' t = some v → look env t = some v) (h : ExD C l S fuel done' env' m K) : ExD C l S fuel done env m K := by
  unfold ExD at h ⊢
  rw [lst_perm hd]
  intro a w hr hh
  exact h a w ⟨hr.def0, hr.size, fun t v ht => hr.at_ t v (he t v ht)⟩ hh
theorem look_swap {a b : Nat} {x y : Value} {e : Env} (h : Nat.beq a b = false) (t : Nat) : look ((a, x) :: (b, y) :: e) t = look ((b, y) :: (a, x) :: e) t := by
  simp only [look]
  cases e1 : Nat.beq a t with
  | true =>
    have := Nat.eq_of_beq_eq_true e1
    subst this
    have : Nat.beq b a = false := by
      cases e2 : Nat.beq b a with
      | false => rfl
      | true => rw [Nat.eq_of_beq_eq_true e2] at h; simp at h
    rw [this]; rfl
  | false => rfl
theorem look_cons {a : Nat} {x : Value} {e e' : Env} {t : Nat} (h : look e t = look e' t) : look ((a, x) :: e) t = look ((a, x) :: e') t := by simp only [look, h]
/-- The same, where an operation on what the call hands back may be taken before the free one. -/
theorem ExD.freeCall1 {X : Type} {v vk : X → Value} {n : X → List Ent} {H : X → Prop} (hi : l[i]? = some oi) (hj : l[j]? = some oj) (hk : l[k]? = some ok_) (h2 : readyOk l done [i, j] = true ∨ readyOk l done [j, i] = true) (h3 : nextOk l (i :: done) j = true) (h4 : nextOk l (k :: j :: done) i = true) (h5 : takeOk l (j :: done) k = true) (h6 : takeOk l (j :: i :: done) k = true) (hij : Nat.beq i j = false) (hdd : Nat.beq di dj = false) (hik : Nat.beq di dk = false)
    (hgi : wantB l env oi = some true) (hgj : wantB l env oj = some true) (hgi' : ∀ x, wantB l ((dk, vk x) :: (dj, v x) :: env) oi = some true) (hgj' : wantB l ((di, vi) :: env) oj = some true) (hgk : ∀ x, wantB l ((dj, v x) :: env) ok_ = some true) (hgk' : ∀ x, wantB l ((dj, v x) :: (di, vi) :: env) ok_ = some true) (hdi : oi.dst = some di) (hli : Nat.blt di C.n = true) (hdk : ok_.dst = some dk) (hlk : Nat.blt dk C.n = true) (hS : S.Sublist m)
    (fi : Free C oi env m vi)
    (cj : ∀ K', (∀ x, H x → K' ((dj, v x) :: env) (n x)) → Op1 C oj env m K')
    (cj' : ∀ K', (∀ x, H x → K' ((dj, v x) :: (di, vi) :: env) (n x)) → Op1 C oj ((di, vi) :: env) m K')
    (hS' : ∀ x, S.Sublist (n x)) (fk : ∀ x, H x → Free C ok_ ((dj, v x) :: env) S (vk x)) (fk' : ∀ x, H x → Free C ok_ ((dj, v x) :: (di, vi) :: env) S (vk x)) (fi' : ∀ x, H x → Free C oi ((dk, vk x) :: (dj, v x) :: env) (n x) vi)
    (h : ∀ x, H x → ExD C l S fuel (k :: j :: i :: done) ((dk, vk x) :: (dj, v x) :: (di, vi) :: env) (n x) K) : ExD C l S (fuel + 1 + 1 + 1) done env m K := by
  have key : ∀ q, q = i ∨ q = j → ∃ o, l[q]? = some o ∧ wantB l env o = some true ∧ Op1 C o env m (fun env m => S.Sublist m ∧ ExD C l S (fuel + 1 + 1) (q :: done) env m K) := by
    rintro q (rfl | rfl)
    · exact ⟨oi, hi, hgi, Op1.of_free fi hdi hli ⟨hS, ExD.op hj h3 hgj' (cj' _ fun x hx => ⟨hS' x, ExD.take hk h6 (fk' x hx) (hS' x) (hgk' x) hdk hlk (h x hx)⟩)⟩⟩
    · refine ⟨oj, hj, hgj, cj _ fun x hx => ⟨hS' x, ExD.take hk h5 (fk x hx) (hS' x) (hgk x) hdk hlk (ExD.op hi h4 (hgi' x) (Op1.of_free (fi' x hx) hdi hli ⟨hS' x, ?_⟩))⟩⟩
      refine ExD.rep ?_ (fun t u ht => ?_) (h x hx)
      · exact (List.Perm.swap _ _ _).trans (List.Perm.cons _ (List.Perm.swap _ _ _))
      · rw [look_swap hik, look_cons (look_swap hdd t)]; exact ht
  rcases h2 with h2 | h2
  · exact ExD.ops h2 (by simp) fun q hq => key q (by simpa using hq)
  · exact ExD.ops h2 (by simp) fun q hq => key q (by have := hq; simp at this; omega)
end Go.Sx

/- Strings; the library's builder of strings, walked. -/
set_option linter.unusedVariables false
set_option linter.unusedSimpArgs false
namespace Go.Sx
open Go Go.RowKit
variable {C : Cx} {env env' : Env} {m m' : List Ent} {o : Oper} {K : Env → List Ent → Prop}
/-- A string by its bytes. -/
abbrev sv (l : List UInt8) : Value := .string ⟨l.toArray⟩
def eU (b : UInt8) : List Value := [.int .u8 (b.toNat : Int)]
theorem eU_len : ∀ b, (eU b).length = 1 := fun _ => rfl
theorem sv_size (l : List UInt8) : (⟨l.toArray⟩ : ByteArray).size = l.length := by simp [ByteArray.size]
theorem strCells_sv (l : List UInt8) : Lib.strCells ⟨l.toArray⟩ = l.flatMap eU := by
  unfold Lib.strCells eU
  show l.map _ = _
  induction l with
  | nil => rfl
  | cons b l ih => rw [List.map_cons, List.flatMap_cons, ih]; rfl
theorem sv_of (s : ByteArray) : Value.string s = sv s.data.toList := by
  cases s; simp [sv]
theorem fr_addS {T x y T'} {l r : List UInt8} (ho : o.op = .binOp .add T x y T') (hx : ev env x = some (sv l)) (hy : ev env y = some (sv r)) (hb : l.length + r.length ≤ 9223372036854775807) : Free C o env m (sv (l ++ r)) := by
  intro a w hr _
  have h : (binOp .add T (sv l) (sv r)).run C.P w = .ok (sv (l ++ r)) w := by
    have := run_string_add_sum (P := C.P) w ⟨l.toArray⟩ ⟨r.toArray⟩ (by rw [sv_size, sv_size]; exact hb)
    rw [ByteArray.mk_append_mk] at this
    unfold binOp
    simp only [sv]
    exact this
  have hg : (eqGuard .add T x y (sv l) (sv r)).run C.P w = .ok () w := by unfold eqGuard; rfl
  simp only [execOp, ho, hr.ev hx, hr.ev hy, Sem.run_bind, hg, Result.andThen_ok, h]; rfl
theorem beq_S (l r : List UInt8) : ((⟨l.toArray⟩ : ByteArray).toList == (⟨r.toArray⟩ : ByteArray).toList) = decide (l = r) := by
  rw [Bool.eq_iff_iff, decide_eq_true_iff, beq_iff_eq, ByteArray.toList_eq, ByteArray.toList_eq]
theorem fr_eqlS {T x y T'} {l r : List UInt8} (ho : o.op = .binOp .eql T x y T') (hx : ev env x = some (sv l)) (hy : ev env y = some (sv r)) : Free C o env m (.bool (decide (l = r))) := by
  intro a w hr _
  have h : (binOp .eql T (sv l) (sv r)).run C.P w = .ok (.bool (decide (l = r))) w := by
    show (Op.stringOp .eql ⟨l.toArray⟩ ⟨r.toArray⟩).run C.P w = _
    simp only [Op.stringOp, beq_S, Sem.run_pure]
  have hg : (eqGuard .eql T x y (sv l) (sv r)).run C.P w = .ok () w := by unfold eqGuard; rfl
  simp only [execOp, ho, hr.ev hx, hr.ev hy, Sem.run_bind, hg, Result.andThen_ok, h]; rfl
theorem fr_neqS {T x y T'} {l r : List UInt8} (ho : o.op = .binOp .neq T x y T') (hx : ev env x = some (sv l)) (hy : ev env y = some (sv r)) : Free C o env m (.bool (!decide (l = r))) := by
  intro a w hr _
  have h : (binOp .neq T (sv l) (sv r)).run C.P w = .ok (.bool (!decide (l = r))) w := by
    show (Op.stringOp .neq ⟨l.toArray⟩ ⟨r.toArray⟩).run C.P w = _
    simp only [Op.stringOp, beq_S, Sem.run_pure]
  have hg : (eqGuard .neq T x y (sv l) (sv r)).run C.P w = .ok () w := by unfold eqGuard; rfl
  simp only [execOp, ho, hr.ev hx, hr.ev hy, Sem.run_bind, hg, Result.andThen_ok, h]; rfl
theorem fr_neqS_f {T x y T'} {l r : List UInt8} (ho : o.op = .binOp .neq T x y T') (hx : ev env x = some (sv l)) (hy : ev env y = some (sv r)) (h : l = r) : Free C o env m (.bool false) := by
  have := fr_neqS (C := C) (m := m) ho hx hy
  rwa [decide_eq_true h] at this
theorem fr_lenS {x T} {l : List UInt8} (ho : o.op = .call { callee := .builtin .len, args := #[x], argTypes := #[T] }) (hx : ev env x = some (sv l)) (hT : C.P.underlying T = some .string) : Free C o env m (.int .i64 l.length) := by
  have := fr_len_str (m := m) ho hx hT
  rwa [sv_size] at this
/-- Bytes to a string. -/
theorem fr_convBS {S D x E} {n c : Nat} {A : Option Addr} {cs : List Value} (l : List UInt8) (ho : o.op = .convert S D x) (hx : ev env x = some (.slice A n c)) (H : Reads C m A cs) (hcs : cs = l.flatMap eU) (hn : n = l.length) (h0 : 0 < n) (hS : C.P.underlying S = some (.slice E)) (hE : C.P.underlying E = some (.int .u8)) (hD : C.P.underlying D = some .string) : Free C o env m (sv l) := by
  subst hcs hn
  intro a w hr hw
  have hR := H w hw
  have hA := hR.isSome (by rw [flat_len eU_len]; omega)
  obtain ⟨ad, rfl⟩ := Option.isSome_iff_exists.1 hA
  have hrun := run_convert_bytes_back (P := C.P) w S D E ad c l hS hE hD fun j hj => by
    obtain ⟨ad', e1, hc⟩ := hR j (.int .u8 (l[j].toNat : Int)) (by
      have := flat_get eU_len (0 : UInt8) l j 0 hj (by omega)
      simp only [Nat.mul_one, Nat.add_zero] at this
      rw [this]; simp [eU, List.getD, hj])
    obtain rfl := Option.some.inj e1
    exact hc
  simp only [execOp, ho, hr.ev hx, Sem.run_bind, hrun, Result.andThen_ok, Sem.run_pure]
theorem b8_cell {x : Int} (h : 0 ≤ x ∧ x ≤ 255) : (.int .u8 x : Value) = .int .u8 ((UInt8.ofNat x.toNat).toNat : Int) := by
  have : (UInt8.ofNat x.toNat).toNat = x.toNat := by simp [UInt8.toNat_ofNat]; omega
  rw [this]; congr 1; omega
/-! ### The builder -/
theorem blk_shape {i b : Nat} {cs : List Value} {T : TypeId} (hi : m[i]? = some (.blk b cs T)) {w : World} (hw : Holds C.base C.w0 m w) : w.shape? b = some (T, cs.length) := by
  have h := (hw.all _ (List.mem_of_getElem? hi)).2
  simp [World.shape?, h]
theorem fr_toUnsafe {S D x U} {i b : Nat} {cs : List Value} {T : TypeId} {sz : Nat} (hi : m[i]? = some (.blk b cs T)) (ho : o.op = .convert S D x) (hx : ev env x = some (.pointer (some ⟨b, 0, none⟩))) (hS : C.P.underlying S = some (.pointer U)) (hD : C.P.underlying D = some .unsafePointer) (hU : (C.P.info? U).map (·.size) = some sz) (h0 : Nat.blt 0 sz = true) (hl : Nat.blt 0 cs.length = true) : Free C o env m (.pointer (some ⟨b, 0, none⟩)) := by
  intro a w hr hw
  obtain ⟨j, hj, hjs⟩ := Option.map_eq_some_iff.1 hU
  have h0' : 0 < sz := by simpa using h0
  have hrun := Lib.run_to_unsafe (P := C.P) w (src := S) (dst := D) ⟨b, 0, none⟩ hS hD hj (by omega) (blk_shape hi hw) (by simpa using hl)
  simp only [execOp, ho, hr.ev hx, Sem.run_bind, hrun, Result.andThen_ok, Sem.run_pure]
theorem fr_fromUnsafe {S D x U} {i b : Nat} {cs : List Value} {T : TypeId} {sz : Nat} (hi : m[i]? = some (.blk b cs T)) (ho : o.op = .convert S D x) (hx : ev env x = some (.pointer (some ⟨b, 0, none⟩))) (hS : C.P.underlying S = some .unsafePointer) (hD : C.P.underlying D = some (.pointer U)) (hU : (C.P.info? U).map (·.size) = some sz) (hl : liesAt C.P C.P.depth T (cs.length / C.P.cellsOf T) 0 U 1 = true) : Free C o env m (.pointer (some ⟨b, 0, none⟩)) := by
  intro a w hr hw
  obtain ⟨j, hj, hjs⟩ := Option.map_eq_some_iff.1 hU
  have hrun := Lib.run_from_unsafe (P := C.P) w (src := S) (dst := D) ⟨b, 0, none⟩ hS hD hj (blk_shape hi hw) hl
  simp only [execOp, ho, hr.ev hx, Sem.run_bind, hrun, Result.andThen_ok, Sem.run_pure]
theorem fr_noEsc {fo f args at_ x v fn} (ho : o.op = .call { callee := .value fo, args := args, argTypes := at_ }) (hfo : ev env fo = some (.func (.func f) #[] #[])) (ha : args = #[x]) (hx : ev env x = some v) (hf : C.P.funcs[f]? = some fn) (hname : (fn.name == "runtime.NumGoroutine") = false) (hb : fn.body.isNone = true) (hn : Extern.findNext fn = none) (he : Extern.find fn = some Extern.AbiNoEscape.same) : Free C o env m v := by
  intro a w hr hw
  subst ha
  have hrun : (callFunc f #[v]).run C.P w = .ok (.value v) w := by
    rw [run_callFunc_extern hf hname hb hn he, Lib.run_noEscape]; rfl
  simp only [execOp, ho, resolve, hr.ev hfo, Deferred.ofValue, invoke]
  simp [hr.ev hx, hrun]
theorem fr_neq_ptr_same {T x y T' E ad} (ho : o.op = .binOp .neq T x y T') (hx : ev env x = some (.pointer (some ad))) (hy : ev env y = some (.pointer (some ad))) (hT : C.P.underlying T = some (.pointer E)) (hE : (C.P.info? E).isSome = true) : Free C o env m (.bool false) := by
  intro a w hr _
  obtain ⟨j, hj⟩ := Option.isSome_iff_exists.1 hE
  have h := Lib.run_neq_ptr_same (P := C.P) w ad hT hj
  have hg : (eqGuard .neq T x y (.pointer (some ad)) (.pointer (some ad))).run C.P w = .ok () w := by unfold eqGuard; rfl
  simp only [execOp, ho, hr.ev hx, hr.ev hy, Sem.run_bind, hg, Result.andThen_ok, h]; rfl
/-- append(bytes, a string's bytes). -/
theorem op_appendS {d : Nat} {i : Nat} {s x T TS E A n c} {xs l : List UInt8} (ho : o.op = .call { callee := .builtin .append, args := #[s, x], argTypes := #[T, TS] })
    (hs : ev env s = some (.slice A n c)) (hx : ev env x = some (sv l)) (hi : m[i]? = some (.row (.slice A n c) E 1 n (xs.flatMap eU))) (hT : C.P.underlying T = some (.slice E)) (hTS : C.P.underlying TS = some .string)
    (hz : (C.P.info? E).map (fun i => (i.size, i.bytes)) = some (1, 1)) (hzz : (C.P.info? E).bind (·.zero) = some (.int .u8 0))
    (hb : n + l.length ≤ 140737488355328) (hd : o.dst = some d) (hlt : Nat.blt d C.n = true)
    (h : ∀ A' c', K ((d, .slice A' (n + l.length) c') :: env) (m.set i (.row (.slice A' (n + l.length) c') E 1 (n + l.length) ((xs ++ l).flatMap eU)))) : Op1 C o env m K := by
  refine Op1.of_run hd hlt fun a w hrep hh => ?_
  have hmx : maxLen = 9223372036854775807 := rfl
  cases hq : C.P.info? E with
  | none => simp [hq] at hz
  | some inf =>
    simp only [hq, Option.map_some, Option.some.injEq, Prod.mk.injEq] at hz
    simp only [hq, Option.bind_some] at hzz
    obtain ⟨h1, h2⟩ := hz
    have hown := hh.all _ (List.mem_of_getElem? hi)
    have hown : w.ownsRow C.base E 1 (.slice A n c) n (xs.flatMap eU) := hown
    obtain ⟨hlt, hg'⟩ := List.getElem?_eq_some_iff.1 hi
    have hm : m = m.take i ++ .row (.slice A n c) E 1 n (xs.flatMap eU) :: m.drop (i + 1) := by rw [← hg', List.getElem_cons_drop, List.take_append_drop]
    have hset : ∀ e, m.set i e = m.take i ++ e :: m.drop (i + 1) := fun e => by rw [List.set_eq_take_append_cons_drop, if_pos hlt]
    have hsz := sv_size l
    obtain ⟨v', w', hrun, hown', hgr, _⟩ := Lib.run_append_own_string (P := C.P) w C.base T TS o.type E inf hT hTS hq hzz h1 h2 (.slice A n c) n (xs.flatMap eU) hown ⟨l.toArray⟩ (by rw [hsz]; omega) (by rw [hsz]; exact hb) hh.wle
    rw [hsz, strCells_sv, ← List.flatMap_append] at hown'
    have hv' : ∃ A' c', v' = .slice A' (n + l.length) c' := by
      rcases hown'.2 with ⟨rfl, hn0⟩ | ⟨g, cap, cur, rfl, _⟩
      · exact ⟨none, 0, by rw [hn0]⟩
      · exact ⟨_, cap, rfl⟩
    obtain ⟨A', c', rfl⟩ := hv'
    refine ⟨_, w', m.set i (.row (.slice A' (n + l.length) c') E 1 (n + l.length) ((xs ++ l).flatMap eU)), ?_, ?_, h A' c'⟩
    · simp [execOp, ho, resolve, invoke, builtin, hrep.ev hs, hrep.ev hx, hrun]
    · rw [hset]
      rw [hm] at hh
      refine hh.turn hgr hown' fun b hb' => ?_
      simp only [Ent.has] at hb' ⊢
      rcases hown'.2 with ⟨hv, hn0⟩ | ⟨g, cap, cur, hv, hgb, hgg, _⟩
      · simp at hv; obtain ⟨rfl, _⟩ := hv; simp [Value.ownBlock] at hb'
      · simp only [Value.slice.injEq] at hv
        obtain ⟨rfl, _⟩ := hv
        simp only [Value.ownBlock, Option.some.injEq] at hb' ⊢
        subst hb'
        rcases hown.2 with ⟨hv0, hn0⟩ | ⟨g0, cap0, cur0, hv0, hb0, hg0, hnc0, hcm0, hcs0, ht0⟩
        · right
          simp only [Value.slice.injEq] at hv0
          obtain ⟨rfl, rfl, rfl⟩ := hv0
          have hx0 : xs.flatMap eU = [] := List.eq_nil_of_length_eq_zero (by simpa using hown.1)
          obtain ⟨v2, w2, hrun2, hown2, _, _⟩ := Lib.run_append_own_string (P := C.P) w w.heap.size T TS o.type E inf hT hTS hq hzz h1 h2 (.slice none 0 0) 0 [] (World.ownsRow_nil w _ E 1) ⟨l.toArray⟩ (by rw [hsz]; omega) (by rw [hsz]; exact hb) (Nat.le_refl _)
          rw [hrun] at hrun2
          simp only [Result.ok.injEq] at hrun2
          obtain ⟨rfl, rfl⟩ := hrun2
          exact (World.ownsRow.lt hown2 g (by simp [Value.ownBlock])).1
        · simp only [Value.slice.injEq] at hv0
          obtain ⟨rfl, -, rfl⟩ := hv0
          simp only [Value.ownBlock, Option.some.injEq]
          by_cases hroom : n + l.length ≤ c
          · left
            have hroom2 := Lib.run_append_room_string (P := C.P) w T TS o.type E inf hT hTS hq h1 g0 n c cur0 hg0 ⟨l.toArray⟩ (by rw [hsz]; exact hroom) (by rw [hsz]; simp only [Nat.mul_one] at hcs0; omega)
            rw [hrun] at hroom2
            simp only [Result.ok.injEq, Value.slice.injEq, Option.some.injEq, Addr.mk.injEq] at hroom2
            exact hroom2.1.1.1.symm
          · right
            have hgrow := Lib.run_append_grow_string (P := C.P) w T TS o.type E inf _ hT hTS hq hzz ⟨g0, 0, none⟩ n c (xs.flatMap eU) (by rw [h1]; exact hown.1) (World.ownsRow.cells hown (g := g0) rfl) ⟨l.toArray⟩ (by rw [hsz]; omega) (by rw [hsz]; omega) (by
              rw [hsz, h2, Nat.mul_one]
              have := growslice_fits (old := c) (need := n + l.length) (bytes := 1) (by omega) (by omega)
              simpa using this)
            rw [hrun] at hgrow
            simp only [Result.ok.injEq, Value.slice.injEq, Option.some.injEq, Addr.mk.injEq] at hgrow
            have := hgrow.1.1.1
            omega
end Go.Sx

/- Arrays of arrays: an element of several cells, by a number that is reckoned. -/
namespace Go.Sx
open Go Go.RowKit
variable {C : Cx} {env : Env} {m : List Ent} {o : Oper}
theorem segB {α : Type} {f : α → List Value} {sz : Nat} {i b : Nat} {T} {xs : List α} {k : Nat} (hi : m[i]? = some (.blk b (xs.flatMap f) T)) (hf : ∀ x, (f x).length = sz) (d : α) (hk : k < xs.length) : SegO C m (some ⟨b, 0 + (k : Int).toNat * sz, none⟩) (f (xs.getD k d)) := by
  rw [Nat.zero_add, Int.toNat_natCast]
  refine SegO.blk hi fun j u hj => ?_
  have hlt : j < sz := by rw [← hf (xs.getD k d)]; exact (List.getElem?_eq_some_iff.1 hj).1
  rw [flat_get hf d xs k j hk hlt, hj]
theorem segOld {α : Type} {f : α → List Value} {sz : Nat} {b q : Nat} {xs : List α} {k : Nat} (H : Reads C m (some ⟨b, q, none⟩) (xs.flatMap f)) (hf : ∀ x, (f x).length = sz) (d : α) (hp : Nat.blt 0 sz = true) (hk : k < xs.length) : SegO C m (some ⟨b, q + (k : Int).toNat * sz, none⟩) (f (xs.getD k d)) := by
  have h := segN H hf hp d hk
  simpa [offA, add_at] using h
theorem fr_indexG {α : Type} {f : α → List Value} {sz : Nat} {xs : List α} {j : Nat} (hf : ∀ x, (f x).length = sz) (d : α) {S x y} {N : Nat} {E} {k} {dd} (ho : o.op = .index S x y) (hx : ev env x = some (.agg (List.toArray (xs.flatMap f)))) (hy : ev env y = some (.int k (j : Int))) (hS : C.P.underlying S = some (.array N E)) (hE : C.P.underlying E = some dd) (hd : aggD dd = true) (hs : (C.P.info? E).map (·.size) = some sz) (hN : xs.length = N) (hj : j < xs.length) : Free C o env m (.agg (f (xs.getD j d)).toArray) := by
  have := fr_indexN (C := C) (m := m) ho hx hy hS hE hd hs (by omega)
  rwa [Int.toNat_natCast, flat_seg hf d xs j hj] at this
theorem fr_sliceArr_h {T x y E k} {N b q0 : Nat} {q : Int} (h : Nat) (hq : q = (h : Nat)) (ho : o.op = .slice T x none (some y) none) (hx : ev env x = some (.pointer (some ⟨b, q0, none⟩))) (hy : ev env y = some (.int k q)) (hT : C.P.underlying T = some (.array N E)) {sz : Nat} (hs : (C.P.info? E).map (·.size) = some sz) (hN : Nat.blt 0 N = true) (hb : h ≤ N) : Free C o env m (.slice (some ⟨b, q0, none⟩) h N) := by
  subst hq
  intro a w hr _
  have hN0 : 0 < N := by simpa using hN
  have hal : C.P.arrayLen T = N := by simp [Program.arrayLen, hT]
  have he : C.P.elem T = E := by simp [Program.elem, hT]
  have ht' : C.P.underlying T = some (.array (C.P.arrayLen T) (C.P.elem T)) := by rw [hal, he, hT]
  have h2 := run_sliceAt_array_h (P := C.P) w T ⟨b, q0, none⟩ ht' k (h : Int) (by omega) (by omega)
  rw [he, run_sizeOf hs w, Result.andThen_ok, hal] at h2
  have h3 : slicedAt ⟨b, q0, none⟩ 0 ((h : Int).toNat) N sz = .slice (some ⟨b, q0, none⟩) h N := by
    unfold slicedAt
    rw [Int.toNat_natCast, if_neg (by omega), Nat.zero_mul, add_at, Nat.add_zero, Nat.sub_zero, Nat.sub_zero]
  rw [h3] at h2
  simp only [execOp, ho, hr.ev hx, Option.map_none, Option.map_some, hr.ev hy, Sem.run_bind, h2, Result.andThen_ok, Sem.run_pure]
theorem fr_maxW {x y T T' k p q} (z : Int) (hz : max p q = z) (ho : o.op = .call { callee := .builtin .max, args := #[x, y], argTypes := #[T, T'] }) (hx : ev env x = some (.int k p)) (hy : ev env y = some (.int k q)) : Free C o env m (.int k z) := by
  subst hz; exact fr_max ho hx hy
theorem cellW {β : Type} {A : Option Addr} {f : β → List Value} {sz : Nat} {xs : List β} {i : Int} (j : Nat) {v : Value} {r : β} (H : Reads C m A (xs.flatMap f)) (hf : ∀ x, (f x).length = sz) (d : β) (k : Nat) (hk : Nat.blt k sz = true) (hi : i = (j : Int)) (hj : j < xs.length) (he : xs.getD j d = r) (hv : (f r)[k]? = some v) : CellO C m (offA A (i.toNat * sz + k)) v := by
  subst he; exact cellJ j H hf d k hk hi hj hv
theorem quo64 {d : Nat} (h : d < 1000000) : IntKind.i64.wrap ((d : Int).tdiv 64) = ((d / 64 : Nat) : Int) := by
  rw [Int.tdiv_eq_ediv_of_nonneg (by omega), IntKind.wrap_i64]; omega
end Go.Sx
namespace Go.Sx
open Go Go.RowKit
variable {C : Cx} {env : Env} {m : List Ent} {l : List Oper} {K : Env → List Ent → Prop} {S : List Ent} {fuel i j di dj : Nat} {done : List Nat} {oi oj o : Oper}
/-- Two that may come in either order, each way walked by itself. -/
theorem ExD.fork (hi : l[i]? = some oi) (hj : l[j]? = some oj) (h2 : readyOk l done [i, j] = true) (hgi : wantB l env oi = some true) (hgj : wantB l env oj = some true)
    (h : Op1 C oi env m fun env m => S.Sublist m ∧ ExD C l S fuel (i :: done) env m K) (h' : Op1 C oj env m fun env m => S.Sublist m ∧ ExD C l S fuel (j :: done) env m K) : ExD C l S (fuel + 1) done env m K := by
  refine ExD.ops h2 (by simp) fun k hk => ?_
  rcases List.mem_cons.1 hk with rfl | hk
  · exact ⟨oi, hi, hgi, h⟩
  · obtain rfl : k = j := by simpa using hk
    exact ⟨oj, hj, hgj, h'⟩
end Go.Sx

/- Slices of slices, copies. -/
set_option linter.unusedVariables false
set_option linter.unusedSimpArgs false
namespace Go.Sx
open Go Go.RowKit
variable {C : Cx} {env : Env} {m : List Ent} {o : Oper} {K : Env → List Ent → Prop}
/-- Where the rest of a slice begins. -/
def cutA (A : Option Addr) (c k sz : Nat) : Option Addr := if c = k then A else offA A (k * sz)
theorem fr_slice_h {T x y E A n c k} {q : Int} (h : Nat) (hq : q = (h : Nat)) (ho : o.op = .slice T x none (some y) none) (hx : ev env x = some (.slice A n c)) (hy : ev env y = some (.int k q)) (hT : C.P.underlying T = some (.slice E)) {sz : Nat} (hs : (C.P.info? E).map (·.size) = some sz) (hb : h ≤ c) : Free C o env m (.slice A h c) := by
  subst hq
  intro a w hr _
  have ht' : C.P.underlying T = some (.slice (C.P.elem T)) := by simp [Program.elem, hT]
  have he : C.P.elem T = E := by simp [Program.elem, hT]
  have h2 := run_slice_h (P := C.P) w T A n c ht' k (h : Int) (by omega) (by omega)
  rw [he, run_sizeOf hs w, Result.andThen_ok] at h2
  have h3 : sliced A 0 ((h : Int).toNat) c sz = .slice A h c := by
    unfold sliced
    rw [Int.toNat_natCast, Nat.zero_mul, Nat.sub_zero, Nat.sub_zero]
    have : A.map (·.add 0) = A := by cases A <;> rfl
    rw [this]; simp
  rw [h3] at h2
  simp only [execOp, ho, hr.ev hx, Option.map_none, Option.map_some, hr.ev hy, run_sliceAt_slice w T _ _ _ _ ht', Sem.run_bind, h2, Result.andThen_ok, Sem.run_pure]
theorem fr_slice_l {T x y E A n c k} {q : Int} (h : Nat) (hq : q = (h : Nat)) (ho : o.op = .slice T x (some y) none none) (hx : ev env x = some (.slice A n c)) (hy : ev env y = some (.int k q)) (hT : C.P.underlying T = some (.slice E)) {sz : Nat} (hs : (C.P.info? E).map (·.size) = some sz) (hb : h ≤ n) : Free C o env m (.slice (cutA A c h sz) (n - h) (c - h)) := by
  subst hq
  intro a w hr _
  have ht' : C.P.underlying T = some (.slice (C.P.elem T)) := by simp [Program.elem, hT]
  have he : C.P.elem T = E := by simp [Program.elem, hT]
  have h2 := run_slice_l (P := C.P) w T A n c ht' k (h : Int) (by omega) (by omega)
  rw [he, run_sizeOf hs w, Result.andThen_ok] at h2
  have h3 : sliced A ((h : Int).toNat) n c sz = .slice (cutA A c h sz) (n - h) (c - h) := by
    unfold sliced cutA offA
    rw [Int.toNat_natCast]
  rw [h3] at h2
  simp only [execOp, ho, hr.ev hx, Option.map_none, Option.map_some, hr.ev hy, run_sliceAt_slice w T _ _ _ _ ht', Sem.run_bind, h2, Result.andThen_ok, Sem.run_pure]
theorem Free.val {k : IntKind} {p : Int} (z : Int) (h : Free C o env m (.int k p)) (e : p = z) : Free C o env m (.int k z) := e ▸ h
theorem fr_slice_lb {T x y E n c k} {q : Int} {b q0 : Nat} (h : Nat) (hq : q = (h : Nat)) (ho : o.op = .slice T x (some y) none none) (hx : ev env x = some (.slice (some ⟨b, q0, none⟩) n c)) (hy : ev env y = some (.int k q)) (hT : C.P.underlying T = some (.slice E)) {sz : Nat} (hs : (C.P.info? E).map (·.size) = some sz) (hb : h ≤ n) (hc : h < c) : Free C o env m (.slice (some ⟨b, q0 + h * sz, none⟩) (n - h) (c - h)) := by
  have := fr_slice_l (C := C) (m := m) h hq ho hx hy hT hs hb
  unfold cutA offA at this
  rw [if_neg (by omega)] at this
  simpa [add_at] using this
theorem op_copyRow {d i b n c E k x y dT sT dLen dCap sLen sCap xs ys} {A : Option Addr} (ho : o.op = .call { callee := .builtin .copy, args := #[x, y], argTypes := #[dT, sT] })
    (hx : ev env x = some (.slice (some ⟨b, k, none⟩) dLen dCap)) (hy : ev env y = some (.slice A sLen sCap)) (hT : C.P.underlying dT = some (.slice E)) (hs : (C.P.info? E).map (·.size) = some 1)
    (hi : m[i]? = some (.row (.slice (some ⟨b, 0, none⟩) n c) E 1 n xs)) (hd : o.dst = some d) (hlt : Nat.blt d C.n = true) (new : List Value) (hn : new.length = min sLen dLen) (hp : 0 < new.length) (hsrc : SegO C m A new) (hk : k + new.length ≤ xs.length) (hone : new.all (·.oneCell') = true) (he : put xs k new = ys)
    (h : K ((d, .int .i64 (new.length : Int)) :: env) (m.set i (.row (.slice (some ⟨b, 0, none⟩) n c) E 1 n ys))) : Op1 C o env m K := by
  subst he
  refine Op1.of_run hd hlt fun a w hr hh => ?_
  have hr0 := hh.all _ (List.mem_of_getElem? hi)
  obtain ⟨ad, rfl, hsc⟩ := hsrc w hh
  rcases hr0.2 with ⟨_, hn0⟩ | ⟨g, cap, cur, hv, hb, hg, hnc, hcm, hcs, ht⟩
  · have := hr0.1; rw [hn0] at this; omega
  · simp only [Value.slice.injEq, Option.some.injEq, Addr.mk.injEq, true_and, and_true] at hv
    obtain ⟨rfl, rfl⟩ := hv
    have hxl : xs.length = n * 1 := hr0.1
    have h1 := run_copy_row (P := C.P) w dT sT o.type E b k dLen dCap ad sLen sCap cur E new hT hs hg hn hsc (by omega) (by simpa using hone)
    refine ⟨_, w.setRow b (cur.toList.take k ++ new ++ cur.toList.drop (k + new.length)).toArray, _, ?_, turn_row hh hi rfl hg rfl ?_, h⟩
    · simp only [execOp, ho, resolve, invoke, builtin, hr.ev hx, hr.ev hy, Sem.run_bind, List.map_toArray, List.map_cons, List.map_nil, h1, Result.andThen_ok, Sem.run_pure]; rfl
    · have hlen : (put xs k new).length = n * 1 := by simp only [put, List.length_append, List.length_take, List.length_drop]; omega
      refine ⟨hlen, .inr ⟨b, c, _, rfl, hb, setRow_heap w b cur _ E _ hg, hnc, hcm, ?_, ?_⟩⟩
      · simp only [List.size_toArray, List.length_append, List.length_take, List.length_drop, Array.length_toList]; omega
      · subst ht
        exact take_put (by omega) (by simp; omega)
theorem seg_row {i b n c : Nat} {E sz : Nat} {xs seg : List Value} (hi : m[i]? = some (.row (.slice (some ⟨b, 0, none⟩) n c) E sz n xs)) (hne : seg ≠ []) (hs : xs.take seg.length = seg) : SegO C m (some ⟨b, 0, none⟩) seg := by
  have := SegO.of (k := 0) (Reads.row (C := C) hi) hne fun j u hj => by
    rw [Nat.zero_add]
    rw [← hs, List.getElem?_take] at hj
    split at hj
    · exact hj
    · cases hj
  exact this
end Go.Sx

/- Arrays of arrays compared with themselves. -/
set_option linter.unusedVariables false
set_option linter.unusedSimpArgs false
namespace Go.Sx
open Go Go.RowKit
variable {C : Cx} {env env' : Env} {m m' : List Ent} {o : Oper}
theorem EqOk.rowsSelf {α : Type} {f : α → List Value} {sz : Nat} (hf : ∀ x, (f x).length = sz) (z : α) {P : Program} {d : Nat} {t e : TypeId} {n : Nat} {i : TypeInfo} {dd : TypeDesc} (hu : P.underlying t = some (.array n e)) (hi : P.info? e = some i) (hs : i.size = sz) (hT : P.underlying e = some dd) (hd : aggD dd = true) (xs : List α) (hx : xs.length = n)
    (he : ∀ x, EqOk P d e (.agg (f x).toArray) (.agg (f x).toArray) true) : EqOk P (d + 1) t (.agg (xs.flatMap f).toArray) (.agg (xs.flatMap f).toArray) true := fun w => by
  rw [run_equalIn_array w d _ _ hu hi, show P.cellsOf e = sz by simp [Program.cellsOf, hi, hs]]
  have key : ∀ is : List Nat, (∀ j, j ∈ is → j < xs.length) → (Op.eqItems d e sz (xs.flatMap f).toArray (xs.flatMap f).toArray is).run P w = .ok true w := by
    intro is
    induction is with
    | nil => intro _; simp [Op.eqItems]
    | cons j is ih =>
      intro h
      have hp := run_partN (P := P) (T := e) (n := sz) hT hd (by rw [hi]; simp [hs]) (cs := xs.flatMap f) (k := j * sz) w
      rw [flat_seg hf z xs j (h j (by simp))] at hp
      simp only [Op.eqItems, Sem.run_bind, hp, Result.andThen_ok, he (xs.getD j z) w]
      simp only [Bool.not_true, Bool.false_eq_true, if_false]
      exact ih fun q hq => h q (by simp [hq])
  exact key _ fun j hj => by rw [hx]; simpa using hj
theorem row_blk {i n c sz : Nat} {A : Option Addr} {E xs} (hi : m[i]? = some (.row (.slice A n c) E sz n xs)) (hn : 0 < n) : ∀ w, Holds C.base C.w0 m w → ∃ g, A = some ⟨g, 0, none⟩ := fun w hw => by
  have h := hw.all _ (List.mem_of_getElem? hi)
  rcases h.2 with ⟨_, h0⟩ | ⟨g, cap, cur, hv, _⟩
  · omega
  · simp only [Value.slice.injEq] at hv
    exact ⟨g, hv.1⟩
theorem fr_neq_bool_same {T x y T' p} (ho : o.op = .binOp .neq T x y T') (hx : ev env x = some (.bool p)) (hy : ev env y = some (.bool p)) (hT : C.P.underlying T = some .bool) : Free C o env m (.bool false) := by
  have := fr_neq_bool (m := m) ho hx hy hT
  rwa [show (p != p) = false by simp] at this
end Go.Sx

/- What a device does, in plain numbers. -/
set_option linter.unusedVariables false
set_option linter.unusedSimpArgs false
namespace Go.W
open Go Go.Sx
def VDev.v (d : VDev) : Int := val d.stack d.shows.l
def validDev (d : VDev) : Bool := decide (validStack d.stack = true ∧ validDig d.stack d.shows.l = true ∧ (0 ≤ d.tickets ∧ d.tickets ≤ 1000000) ∧ (d.preset = -1 ∨ 0 ≤ d.preset ∧ d.preset ≤ size d.stack - 1) ∧ (d.stopped = true → d.preset = d.v))
structure DevOk (d : VDev) : Prop where
  stk : Stk d.stack
  dig : DigOk d.stack d.shows.l
  vd : validDig d.stack d.shows.l = true
  tick : 0 ≤ d.tickets ∧ d.tickets ≤ 1000000
  preset : d.preset = -1 ∨ 0 ≤ d.preset ∧ d.preset ≤ prod d.stack - 1
  stop : d.stopped = true → d.preset = d.v
theorem devOk {d : VDev} (hn : Nums 255 d.shows.l) (h : validDev d = true) : DevOk d := by
  unfold validDev at h
  rw [decide_eq_true_iff] at h
  obtain ⟨h1, h2, h3, h4, h5⟩ := h
  have hs := Go.W.stk h1
  exact ⟨hs, digOk hs.len8 hn h2, h2, h3, by rw [hs.size_] at h4; exact h4, h5⟩
theorem DevOk.v_lt {d : VDev} (h : DevOk d) : 0 ≤ d.v ∧ d.v < prod d.stack := val_lt h.stk h.dig (by rw [dig_len]; exact h.stk.len8)
/-- How many pulses there are until n is gone through, size at most. -/
def until1 (n size : Int) : Int := if n % size = 0 then size else n % size
theorem until_pos {n z : Int} (hz : 0 < z) : 1 ≤ until1 n z ∧ until1 n z ≤ z := by
  unfold until1
  have h1 := Int.emod_nonneg n (show z ≠ 0 by omega)
  have h2 := Int.emod_lt_of_pos n hz
  split <;> omega
theorem until_big {n z : Int} (hz : 0 < z) (h0 : 0 < n) (h1 : n < z) : until1 n z = n := by
  unfold until1; rw [Int.emod_eq_of_lt (by omega) h1, if_neg (by omega)]
theorem until_small {n z : Int} (hz : 0 < z) (h0 : n ≤ 0) (h1 : -z < n) : until1 n z = n + z := by
  unfold until1
  have e : n % z = if n = 0 then 0 else n + z := by
    split
    · subst n; simp
    · have := Int.add_emod_right n z
      rw [← this, Int.emod_eq_of_lt (by omega) (by omega)]
  rw [e]; split <;> split <;> omega
end Go.W
namespace Go.W
open Go Go.Sx
def zDig : Dig := ⟨0, 0, 0, 0, 0, 0, 0, 0⟩
def zT : VTic := ⟨0, zDig, 0⟩
def zN : VNote := ⟨zA, zDig, 0⟩
def zDev : VDev := ⟨[], zDig, 0, false, 0⟩
/-- Two lists, compared one by one. -/
def allEq {α : Type} (e : α → α → Bool) (d : α) (s t : List α) : Bool := decide (s.length = t.length ∧ ∀ i, i < s.length → e (s.getD i d) (t.getD i d) = true)
theorem allEq_refl {α : Type} {e : α → α → Bool} (he : ∀ x, e x x = true) (d : α) (s : List α) : allEq e d s s = true := by simp [allEq, he]
theorem ae_len {α : Type} {e : α → α → Bool} {d : α} {s t : List α} (h : ¬ s.length = t.length) : false = allEq e d s t := by symm; unfold allEq; rw [decide_eq_false_iff_not]; exact fun h' => h h'.1
theorem ae_no {α : Type} {e : α → α → Bool} {d : α} {s t : List α} (k : Nat) (hk : k < s.length) (h : e (s.getD k d) (t.getD k d) = false) : false = allEq e d s t := by
  symm; unfold allEq; rw [decide_eq_false_iff_not]; intro h'; rw [h'.2 k hk] at h; cases h
theorem ae_yes {α : Type} {e : α → α → Bool} {d : α} {s t : List α} {k : Nat} (hl : s.length = t.length) (hk : ¬ k < s.length) (h : ∀ i, i < k → e (s.getD i d) (t.getD i d) = true) : true = allEq e d s t := by
  symm; unfold allEq; rw [decide_eq_true_iff]; exact ⟨hl, fun i hi => h i (by omega)⟩
def sameT (a b : VTic) : Bool := decide (a.number = b.number ∧ a.shows.l = b.shows.l ∧ a.check = b.check)
def sameA (a b : VAct) : Bool := decide (a.kind = b.kind ∧ a.n = b.n)
def sameN (a b : VNote) : Bool := decide (sameA a.act b.act = true ∧ a.shows.l = b.shows.l ∧ a.lost = b.lost)
theorem sameT_refl (a : VTic) : sameT a a = true := by simp [sameT]
theorem sameA_refl (a : VAct) : sameA a a = true := by simp [sameA]
theorem sameN_refl (a : VNote) : sameN a a = true := by simp [sameN, sameA]
theorem sameTs_refl (s : List VTic) : allEq sameT zT s s = true := allEq_refl sameT_refl _ _
theorem sameAs_refl (s : List VAct) : allEq sameA zA s s = true := allEq_refl sameA_refl _ _
theorem sameNs_refl (s : List VNote) : allEq sameN zN s s = true := allEq_refl sameN_refl _ _
/-- Each of a list is well. -/
theorem all_at {α : Type} {p : α → Prop} {s : List α} (h : ∀ x ∈ s, p x) {k : Nat} (d : α) (hk : k < s.length) : p (s.getD k d) := h _ (getD_mem d hk)
def genT (s : List Int) (t : VTic) : Bool := decide ((1 ≤ t.number ∧ t.number ≤ 1000000) ∧ validDig s t.shows.l = true ∧ t.check = check t.number t.shows.l)
def tfault (s : List Int) (n : Nat) : Int := if validStack s = false then 1 else if 60 < (n : Int) then 3 else 0
theorem tf_bad {s : List Int} {n : Nat} (h : validStack s = false) : 1 = tfault s n := by unfold tfault; rw [if_pos h]
theorem tf_long {s : List Int} {n : Nat} (h : validStack s = true) (h2 : 60 < (n : Int)) : 3 = tfault s n := by unfold tfault; rw [if_neg (by simp [h]), if_pos h2]
theorem tf_ok {s : List Int} {n : Nat} (h : validStack s = true) (h2 : ¬ 60 < (n : Int)) : 0 = tfault s n := by unfold tfault; rw [if_neg (by simp [h]), if_neg h2]
theorem tf_zero {s : List Int} {n : Nat} (h : ¬ tfault s n ≠ 0) : validStack s = true ∧ n ≤ 60 := by
  unfold tfault at h
  split at h
  · exact absurd (by decide) h
  · split at h
    · exact absurd (by decide) h
    · exact ⟨by simp_all, by omega⟩
/-- The first of a list that does not go on as it should. -/
def badT (s : List Int) (l : List VTic) (i : Nat) : Bool := decide (genT s (l.getD i zT) = false ∨ 0 < i ∧ (l.getD i zT).number ≤ (l.getD (i - 1) zT).number)
def firstB (p : Nat → Bool) (n : Nat) : Option Nat := (List.range n).find? p
theorem firstB_hit {p : Nat → Bool} {n k : Nat} (hk : k < n) (h : ∀ i, i < k → p i = false) (hp : p k = true) : firstB p n = some k := by
  unfold firstB
  rw [List.find?_range_eq_some]
  exact ⟨hp, by simpa using hk, fun j hj => by simp [h j hj]⟩
theorem firstB_none {p : Nat → Bool} {n k : Nat} (hk : ¬ k < n) (h : ∀ i, i < k → p i = false) : firstB p n = none := by
  unfold firstB
  rw [List.find?_range_eq_none]
  intro i hi
  simp [h i (by omega)]
def at2 (o : Option Nat) : Int × Int := match o with
  | some k => (k, 0)
  | none => (0, 6)
def firstForged (s : List Int) (l : List VTic) : Int × Int := if tfault s l.length ≠ 0 then (0, tfault s l.length) else at2 (firstB (badT s l) l.length)
theorem badT_f {s : List Int} {l : List VTic} {k : Nat} (h1 : genT s (l.getD k zT) = true) (h2 : ¬ (0 < k ∧ (l.getD k zT).number ≤ (l.getD (k - 1) zT).number)) : badT s l k = false := by
  unfold badT; rw [decide_eq_false_iff_not]; rintro (h | h)
  · rw [h1] at h; cases h
  · exact h2 h
theorem badT_1 {s : List Int} {l : List VTic} {k : Nat} (h1 : genT s (l.getD k zT) = false) : badT s l k = true := by unfold badT; rw [decide_eq_true_iff]; exact .inl h1
theorem badT_2 {s : List Int} {l : List VTic} {k : Nat} (h0 : 0 < k) (h : (l.getD k zT).number ≤ (l.getD (k - 1) zT).number) : badT s l k = true := by unfold badT; rw [decide_eq_true_iff]; exact .inr ⟨h0, h⟩
end Go.W
namespace Go.W
open Go Go.Sx
def untilV (d : VDev) (st : Int) : Int := until1 (st * (d.preset - d.v)) (prod d.stack)
def pulseV (d : VDev) (n st : Int) : VDev × Int := if d.stopped = true then (d, n) else if d.preset ≠ -1 ∧ untilV d st ≤ n then (⟨d.stack, addD d.stack d.shows (st * untilV d st), d.preset, true, d.tickets⟩, n - untilV d st) else (⟨d.stack, addD d.stack d.shows (st * n), d.preset, d.stopped, d.tickets⟩, 0)
theorem pv_stop {d : VDev} {n st : Int} (h : d.stopped = true) : pulseV d n st = (d, n) := by unfold pulseV; rw [if_pos h]
theorem pv_hit {d : VDev} {n st : Int} (h : d.stopped = false) (h1 : d.preset ≠ -1 ∧ untilV d st ≤ n) : pulseV d n st = (⟨d.stack, addD d.stack d.shows (st * untilV d st), d.preset, true, d.tickets⟩, n - untilV d st) := by unfold pulseV; rw [if_neg (by simp [h]), if_pos h1]
theorem pv_on {d : VDev} {n st : Int} (h : d.stopped = false) (h1 : ¬ (d.preset ≠ -1 ∧ untilV d st ≤ n)) : pulseV d n st = (⟨d.stack, addD d.stack d.shows (st * n), d.preset, d.stopped, d.tickets⟩, 0) := by unfold pulseV; rw [if_neg (by simp [h]), if_neg h1]
def doV (d : VDev) (a : VAct) : VDev × Int × Int :=
  if a.kind = 1 then ((pulseV d a.n 1).1, (pulseV d a.n 1).2, 0) else if a.kind = 2 then ((pulseV d a.n (-1)).1, (pulseV d a.n (-1)).2, 0)
  else if a.kind = 3 then (if a.n ≠ -1 ∧ ¬ (0 ≤ a.n ∧ a.n ≤ size d.stack - 1) then (d, 0, 2) else (⟨d.stack, d.shows, a.n, decide (a.n = d.v), d.tickets⟩, 0, 0))
  else if a.kind = 4 then (⟨d.stack, zDig, d.preset, decide (d.preset = 0), d.tickets⟩, 0, 0)
  else if a.kind = 5 then (if d.tickets = 1000000 then (d, 0, 4) else (⟨d.stack, d.shows, d.preset, d.stopped, d.tickets + 1⟩, 0, 0))
  else (d, 0, 0)
theorem do_1 {d : VDev} {a : VAct} (h : a.kind = 1) : doV d a = ((pulseV d a.n 1).1, (pulseV d a.n 1).2, 0) := by unfold doV; rw [if_pos h]
theorem do_2 {d : VDev} {a : VAct} (h : a.kind = 2) : doV d a = ((pulseV d a.n (-1)).1, (pulseV d a.n (-1)).2, 0) := by unfold doV; rw [if_neg (by omega), if_pos h]
theorem do_3n {d : VDev} {a : VAct} (h : a.kind = 3) (h1 : a.n ≠ -1 ∧ ¬ (0 ≤ a.n ∧ a.n ≤ size d.stack - 1)) : doV d a = (d, 0, 2) := by unfold doV; rw [if_neg (by omega), if_neg (by omega), if_pos h, if_pos h1]
theorem do_3 {d : VDev} {a : VAct} (h : a.kind = 3) (h1 : ¬ (a.n ≠ -1 ∧ ¬ (0 ≤ a.n ∧ a.n ≤ size d.stack - 1))) : doV d a = (⟨d.stack, d.shows, a.n, decide (a.n = d.v), d.tickets⟩, 0, 0) := by unfold doV; rw [if_neg (by omega), if_neg (by omega), if_pos h, if_neg h1]
theorem do_4 {d : VDev} {a : VAct} (h : a.kind = 4) : doV d a = (⟨d.stack, zDig, d.preset, decide (d.preset = 0), d.tickets⟩, 0, 0) := by unfold doV; rw [if_neg (by omega), if_neg (by omega), if_neg (by omega), if_pos h]
theorem do_5n {d : VDev} {a : VAct} (h : a.kind = 5) (h1 : d.tickets = 1000000) : doV d a = (d, 0, 4) := by unfold doV; rw [if_neg (by omega), if_neg (by omega), if_neg (by omega), if_neg (by omega), if_pos h, if_pos h1]
theorem do_5 {d : VDev} {a : VAct} (h : a.kind = 5) (h1 : ¬ d.tickets = 1000000) : doV d a = (⟨d.stack, d.shows, d.preset, d.stopped, d.tickets + 1⟩, 0, 0) := by unfold doV; rw [if_neg (by omega), if_neg (by omega), if_neg (by omega), if_neg (by omega), if_pos h, if_neg h1]
theorem do_0 {d : VDev} {a : VAct} (h1 : ¬ a.kind = 1) (h2 : ¬ a.kind = 2) (h3 : ¬ a.kind = 3) (h4 : ¬ a.kind = 4) (h5 : ¬ a.kind = 5) : doV d a = (d, 0, 0) := by unfold doV; rw [if_neg h1, if_neg h2, if_neg h3, if_neg h4, if_neg h5]
theorem act_n {a : VAct} (h : validAct a = true) : (a.kind = 1 ∨ a.kind = 2 → 0 ≤ a.n ∧ a.n ≤ 1000000000000) ∧ (a.kind = 3 → -1 ≤ a.n ∧ a.n ≤ 1000000000000) := by
  unfold validAct at h; rw [decide_eq_true_iff] at h; omega
theorem sizeS {d : VDev} (h : DevOk d) : size d.stack = prod d.stack := h.stk.size_
/-- What stands for a device that is none. -/
def newDev (s : List Int) : VDev × Int := if validStack s = true then (⟨s, zDig, -1, false, 0⟩, 0) else (zDev, 1)
theorem nwd_t {s : List Int} (h : validStack s = true) : newDev s = (⟨s, zDig, -1, false, 0⟩, 0) := by unfold newDev; rw [if_pos h]
theorem nwd_f {s : List Int} (h : validStack s = false) : newDev s = (zDev, 1) := by unfold newDev; rw [if_neg (by simp [h])]
def doActV (d : VDev) (a : VAct) : VDev × Int × Int := if validDev d = true ∧ validAct a = true then (if (doV d a).2.2 ≠ 0 then (zDev, 0, (doV d a).2.2) else doV d a) else (zDev, 0, 1)
theorem da_bad {d : VDev} {a : VAct} (h : ¬ (validDev d = true ∧ validAct a = true)) : doActV d a = (zDev, 0, 1) := by unfold doActV; rw [if_neg h]
theorem da_no {d : VDev} {a : VAct} (h : validDev d = true ∧ validAct a = true) (h1 : (doV d a).2.2 ≠ 0) : doActV d a = (zDev, 0, (doV d a).2.2) := by unfold doActV; rw [if_pos h, if_pos h1]
theorem da_ok {d : VDev} {a : VAct} (h : validDev d = true ∧ validAct a = true) (h1 : ¬ (doV d a).2.2 ≠ 0) : doActV d a = doV d a := by unfold doActV; rw [if_pos h, if_neg h1]
def pulsesV (d : VDev) : Int × Int := if validDev d = false then (0, 1) else if d.preset = -1 then (0, 6) else if d.stopped = true then (0, 0) else (untilV d 1, 0)
theorem nil_of_none {A : Option Addr} {w : World} {base : Nat} {s : List Int} (h : RdB base w A (s.flatMap (eI .u8))) (hA : A.isNone = true) : s = [] := by
  cases s with
  | nil => rfl
  | cons x t =>
    obtain ⟨ad, rfl, _⟩ := h 0 (.int .u8 x) rfl
    cases hA
end Go.W
namespace Go.W
open Go Go.Sx
theorem un_t {d : VDev} : untilV d (bif true then -1 else 1) = until1 (-(d.preset - val d.stack d.shows.l)) (prod d.stack) := by
  unfold untilV VDev.v; rw [cond_true, Int.neg_mul, Int.one_mul]
theorem un_f {d : VDev} : untilV d (bif false then -1 else 1) = until1 (d.preset - val d.stack d.shows.l) (prod d.stack) := by
  unfold untilV VDev.v; rw [cond_false, Int.one_mul]
end Go.W
namespace Go.W
open Go Go.Sx
theorem pu_bad {d : VDev} (h : validDev d = false) : pulsesV d = (0, 1) := by unfold pulsesV; rw [if_pos h]
theorem pu_neg {d : VDev} (ha : Nums 255 d.shows.l) (h : validDev d = true) (hp : d.preset < 0) : pulsesV d = (0, 6) := by
  have := (devOk ha h).preset
  unfold pulsesV; rw [if_neg (by simp [h]), if_pos (by omega)]
theorem pu_stop {d : VDev} (h : validDev d = true) (hp : ¬ d.preset = -1) (h2 : d.stopped = true) : pulsesV d = (0, 0) := by
  unfold pulsesV; rw [if_neg (by simp [h]), if_neg hp, if_pos h2]
theorem pu_on {d : VDev} (h : validDev d = true) (hp : ¬ d.preset = -1) (h2 : d.stopped = false) : pulsesV d = (untilV d 1, 0) := by
  unfold pulsesV; rw [if_neg (by simp [h]), if_neg hp, if_neg (by simp [h2])]
end Go.W
namespace Go.W
open Go Go.Sx
def untilW (d : VDev) (st : Int) : Int := if d.preset < 0 then -1 else untilV d st
theorem uw {d : VDev} {st : Int} : (d.preset < 0 ∧ untilW d st = -1) ∨ (0 ≤ d.preset ∧ untilW d st = untilV d st) := by
  unfold untilW; split <;> omega
theorem uw_pos {d : VDev} {st : Int} (h : 0 ≤ d.preset) : untilW d st = untilV d st := by unfold untilW; rw [if_neg (by omega)]
theorem until_bd {d : VDev} (h : DevOk d) (st : Int) : 1 ≤ untilV d st ∧ untilV d st ≤ prod d.stack := until_pos (by have := h.stk.pos; omega)
end Go.W
namespace Go.W
open Go Go.Sx
/-- Marks, one behind the other. -/
def mk8 (n : Nat) (k : Int) : List Int := (List.range n).map fun (i : Nat) => (k + (i : Int)) % 256
theorem mk8_len (n : Nat) (k : Int) : (mk8 n k).length = n := by simp [mk8]
theorem mk8_at {n : Nat} {k : Int} {i : Nat} (h : i < n) : (mk8 n k).getD i 0 = (k + (i : Int)) % 256 := by simp [mk8, List.getD, h]
theorem do_stack (d : VDev) (a : VAct) : (doV d a).1.stack = d.stack := by
  unfold doV pulseV
  repeat' split
  all_goals rfl
theorem da_len (d : VDev) (a : VAct) : (doActV d a).1.stack.length ≤ d.stack.length := by
  unfold doActV
  split
  · split
    · simp [zDev]
    · rw [do_stack]; exact Nat.le_refl _
  · simp [zDev]
theorem nd_len (s : List Int) : (newDev s).1.stack.length ≤ s.length := by
  unfold newDev; split <;> simp [zDev]
end Go.W

/- Devices behind acts, in plain numbers. -/
set_option linter.unusedVariables false
set_option linter.unusedSimpArgs false
namespace Go.W
open Go Go.Sx
theorem nums_zero : Nums 255 zDig.l := fun x hx => by simp [zDig, Dig.l] at hx; omega
theorem addD_l {s : List Int} {a : Dig} {n : Int} : (addD s a n).l = digs s ((val s a.l + n) % size s) := dig_l (digs_len _ _)
theorem addD_num {s : List Int} {a : Dig} {n : Int} (h : Stk s) : Nums 255 (addD s a n).l := by rw [addD_l]; exact digs_num h.bases
theorem addD_valid {s : List Int} {a : Dig} {n : Int} (h : Stk s) : validDig s (addD s a n).l = true := by rw [addD_l]; exact digs_valid h
theorem addD_val {s : List Int} {a : Dig} {n : Int} (h : Stk s) : val s (addD s a n).l = (val s a.l + n) % prod s := by
  rw [addD_l, val_of h, h.size_, Int.emod_emod_of_dvd _ (Int.dvd_refl _)]
theorem until_hits {d : VDev} (h : DevOk d) (hp : d.preset ≠ -1) {st : Int} (hst : st = 1 ∨ st = -1) : (d.v + st * untilV d st) % prod d.stack = d.preset := by
  have hp0 : 0 ≤ d.preset ∧ d.preset ≤ prod d.stack - 1 := by have := h.preset; omega
  have hpos := h.stk.pos
  have key : st * untilV d st % prod d.stack = (d.preset - d.v) % prod d.stack := by
    unfold untilV until1
    have e : st * (st * (d.preset - d.v)) = d.preset - d.v := by rcases hst with rfl | rfl <;> omega
    split
    · rename_i h0
      have h1 : (st * (st * (d.preset - d.v))) % prod d.stack = 0 := by rw [Int.mul_emod, h0]; simp
      rw [e] at h1
      rw [h1, Int.mul_emod_left]
    · rw [Int.mul_emod, Int.emod_emod_of_dvd _ (Int.dvd_refl _), ← Int.mul_emod, e]
  rw [Int.add_emod, key, ← Int.add_emod, show d.v + (d.preset - d.v) = d.preset by omega, Int.emod_eq_of_lt (by omega) (by omega)]
theorem validDev_of {d : VDev} (hs : validStack d.stack = true) (hd : validDig d.stack d.shows.l = true) (ht : 0 ≤ d.tickets ∧ d.tickets ≤ 1000000) (hp : d.preset = -1 ∨ 0 ≤ d.preset ∧ d.preset ≤ size d.stack - 1) (hst : d.stopped = true → d.preset = d.v) : validDev d = true := by
  unfold validDev; rw [decide_eq_true_iff]; exact ⟨hs, hd, ht, hp, hst⟩
theorem validDig_zero {s : List Int} (h : Stk s) : validDig s zDig.l = true := by
  have := digs_valid (v := 0) h
  have e : digs s 0 = zDig.l := by
    refine List.ext_getElem? fun i => ?_
    rcases Nat.lt_or_ge i 8 with hi | hi
    · have e1 : (digs s 0)[i]? = some ((digs s 0).getD i 0) := by simp [List.getD, digs_len, hi]
      have e2 : zDig.l[i]? = some 0 := by
        match i, hi with
        | 0, _ | 1, _ | 2, _ | 3, _ | 4, _ | 5, _ | 6, _ | 7, _ => rfl
      rw [e1, e2, digs_at hi]
      split
      · simp [dAt]
      · rfl
    · rw [List.getElem?_eq_none (by simp [digs_len]; omega), List.getElem?_eq_none (by rw [dig_len]; omega)]
  rwa [e] at this
theorem val_zero {s : List Int} (h : Stk s) : val s zDig.l = 0 := by
  have key : ∀ (s l : List Int), (∀ i, l.getD i 0 = 0) → val s l = 0 := by
    intro s
    induction s with
    | nil => intro l _; rfl
    | cons b s ih =>
      intro l hl
      have h0 := hl 0
      have ht : ∀ i, l.tail.getD i 0 = 0 := fun i => by have := hl (i + 1); cases l with | nil => simp | cons x t => simpa using this
      simp only [val, ih _ ht]
      cases l with
      | nil => simp
      | cons x t => simp at h0 ⊢; exact h0
  refine key _ _ fun i => ?_
  rcases Nat.lt_or_ge i 8 with hi | hi
  · match i, hi with
    | 0, _ | 1, _ | 2, _ | 3, _ | 4, _ | 5, _ | 6, _ | 7, _ => rfl
  · simp [List.getD, List.getElem?_eq_none (show zDig.l.length ≤ i by rw [dig_len]; exact hi)]
theorem OkDev.mk' {d : VDev} (h : OkDev d) {d' : VDev} (hs : d'.stack = d.stack) (hn : Nums 255 d'.shows.l) (hp : I64 d'.preset) (ht : I64 d'.tickets) : OkDev d' := by
  unfold OkDev at h ⊢; rw [hs]; exact ⟨h.1, h.2.1, hn, hp, ht⟩
theorem pulse_ok {d : VDev} {n st : Int} (hk : OkDev d) (hv : validDev d = true) (hst : st = 1 ∨ st = -1) : OkDev (pulseV d n st).1 ∧ validDev (pulseV d n st).1 = true := by
  have hO := devOk hk.2.2.1 hv
  have hvs : validStack d.stack = true := by unfold validDev at hv; rw [decide_eq_true_iff] at hv; exact hv.1
  have hz := sizeS hO
  unfold pulseV
  split
  · exact ⟨hk, hv⟩
  · split
    · rename_i h1 h2
      refine ⟨hk.mk' rfl (addD_num hO.stk) hk.2.2.2.1 hk.2.2.2.2, validDev_of hvs (addD_valid hO.stk) hO.tick (by rw [hz]; exact hO.preset) (fun _ => ?_)⟩
      show d.preset = val d.stack (addD d.stack d.shows (st * untilV d st)).l
      rw [addD_val hO.stk]
      exact (until_hits hO h2.1 hst).symm
    · rename_i h1 h2
      exact ⟨hk.mk' rfl (addD_num hO.stk) hk.2.2.2.1 hk.2.2.2.2, validDev_of hvs (addD_valid hO.stk) hO.tick (by rw [hz]; exact hO.preset) (fun h => absurd h h1)⟩
theorem do_ok {d : VDev} {a : VAct} (hk : OkDev d) (hv : validDev d = true) (ha : validAct a = true) : OkDev (doV d a).1 ∧ validDev (doV d a).1 = true := by
  have hO := devOk hk.2.2.1 hv
  have hvs : validStack d.stack = true := by unfold validDev at hv; rw [decide_eq_true_iff] at hv; exact hv.1
  have hz := sizeS hO
  have hle := hO.stk.le
  have han := act_n ha
  unfold doV
  split
  · exact pulse_ok hk hv (.inl rfl)
  · split
    · exact pulse_ok hk hv (.inr rfl)
    · split
      · split
        · exact ⟨hk, hv⟩
        · rename_i h3 h4
          have hn : a.n = -1 ∨ 0 ≤ a.n ∧ a.n ≤ size d.stack - 1 := by omega
          refine ⟨hk.mk' rfl hk.2.2.1 (show I64 a.n by unfold I64; omega) hk.2.2.2.2, validDev_of hvs hO.vd hO.tick hn (fun h => ?_)⟩
          show a.n = d.v
          have h : decide (a.n = d.v) = true := h
          exact of_decide_eq_true h
      · split
        · refine ⟨hk.mk' rfl nums_zero hk.2.2.2.1 hk.2.2.2.2, validDev_of hvs (validDig_zero hO.stk) hO.tick (by rw [hz]; exact hO.preset) (fun h => ?_)⟩
          show d.preset = val d.stack zDig.l
          have h : decide (d.preset = 0) = true := h
          rw [val_zero hO.stk]; exact of_decide_eq_true h
        · split
          · split
            · exact ⟨hk, hv⟩
            · have ht := hO.tick
              refine ⟨hk.mk' rfl hk.2.2.1 hk.2.2.2.1 (show I64 (d.tickets + 1) by unfold I64; omega), validDev_of hvs hO.vd (show 0 ≤ d.tickets + 1 ∧ d.tickets + 1 ≤ 1000000 by omega) (by rw [hz]; exact hO.preset) hO.stop⟩
          · exact ⟨hk, hv⟩
/-- The device behind the first i acts of notes. -/
def nowN (d : VDev) (l : List VNote) : Nat → VDev
  | 0 => d
  | i + 1 => (doV (nowN d l i) (l.getD i zN).act).1
theorem nowN_stack (d : VDev) (l : List VNote) : ∀ i, (nowN d l i).stack = d.stack
  | 0 => rfl
  | i + 1 => by rw [nowN, do_stack, nowN_stack d l i]
def badN (d : VDev) (l : List VNote) (i : Nat) : Bool := decide (validAct (l.getD i zN).act = false ∨ (doV (nowN d l i) (l.getD i zN).act).2.2 ≠ 0 ∨ (doV (nowN d l i) (l.getD i zN).act).2.1 ≠ (l.getD i zN).lost ∨ (doV (nowN d l i) (l.getD i zN).act).1.shows.l ≠ (l.getD i zN).shows.l)
theorem badN_t {d : VDev} {l : List VNote} {i : Nat} (h : validAct (l.getD i zN).act = false ∨ (doV (nowN d l i) (l.getD i zN).act).2.2 ≠ 0 ∨ (doV (nowN d l i) (l.getD i zN).act).2.1 ≠ (l.getD i zN).lost ∨ (doV (nowN d l i) (l.getD i zN).act).1.shows.l ≠ (l.getD i zN).shows.l) : badN d l i = true := by unfold badN; rw [decide_eq_true_iff]; exact h
theorem badN_f {d : VDev} {l : List VNote} {i : Nat} (h : ¬ (validAct (l.getD i zN).act = false ∨ (doV (nowN d l i) (l.getD i zN).act).2.2 ≠ 0 ∨ (doV (nowN d l i) (l.getD i zN).act).2.1 ≠ (l.getD i zN).lost ∨ (doV (nowN d l i) (l.getD i zN).act).1.shows.l ≠ (l.getD i zN).shows.l)) : badN d l i = false := by unfold badN; rw [decide_eq_false_iff_not]; exact h
def firstWrong (d : VDev) (l : List VNote) : Int × Int := if validDev d = false then (0, 1) else if 60 < (l.length : Int) then (0, 3) else at2 (firstB (badN d l) l.length)
theorem fw_bad {d : VDev} {l : List VNote} (h : validDev d = false) : firstWrong d l = (0, 1) := by unfold firstWrong; rw [if_pos h]
theorem fw_long {d : VDev} {l : List VNote} (h : validDev d = true) (h1 : 60 < (l.length : Int)) : firstWrong d l = (0, 3) := by unfold firstWrong; rw [if_neg (by simp [h]), if_pos h1]
theorem fw_on {d : VDev} {l : List VNote} (h : validDev d = true) (h1 : ¬ 60 < (l.length : Int)) : firstWrong d l = at2 (firstB (badN d l) l.length) := by unfold firstWrong; rw [if_neg (by simp [h]), if_neg h1]
end Go.W
namespace Go.W
open Go Go.Sx
theorem nsame {a : VNote} {s : Dig} {x : Int} (h : (!sameN a ⟨a.act, s, x⟩) = true) : x ≠ a.lost ∨ s.l ≠ a.shows.l := by
  simp only [sameN, sameA, Bool.not_eq_true', decide_eq_false_iff_not, decide_eq_true_eq, true_and, and_self] at h
  by_cases h1 : x = a.lost
  · right; intro h2; exact h ⟨h2.symm, h1.symm⟩
  · exact .inl h1
theorem ysame {a : VNote} {s : Dig} {x : Int} (h : (!sameN a ⟨a.act, s, x⟩) = false) : x = a.lost ∧ s.l = a.shows.l := by
  simp only [sameN, sameA, Bool.not_eq_false', decide_eq_true_eq, true_and, and_self] at h
  exact ⟨h.2.symm, h.1.symm⟩
end Go.W
namespace Go.W
open Go Go.Sx
/-- The acts of k batches. -/
def batchL (n : Int) : Nat → List VAct
  | 0 => [⟨4, 0⟩]
  | k + 1 => batchL n k ++ [⟨3, n⟩, ⟨1, n⟩, ⟨5, 0⟩, ⟨4, 0⟩]
theorem batchL_len (n : Int) : ∀ k, (batchL n k).length = 1 + 4 * k
  | 0 => rfl
  | k + 1 => by rw [batchL, List.length_append, batchL_len n k]; simp; omega
def batchV (d : VDev) (n k : Int) : List VAct × Int := if validDev d = false then ([], 1) else if ¬ ((1 ≤ n ∧ n ≤ size d.stack - 1) ∧ (0 ≤ k ∧ k ≤ 60)) then ([], 2) else if 60 < 1 + 4 * k then ([], 3) else (batchL n k.toNat, 0)
theorem bt_bad {d : VDev} {n k : Int} (h : validDev d = false) : batchV d n k = ([], 1) := by unfold batchV; rw [if_pos h]
theorem bt_range {d : VDev} {n k : Int} (h : validDev d = true) (h1 : ¬ ((1 ≤ n ∧ n ≤ size d.stack - 1) ∧ (0 ≤ k ∧ k ≤ 60))) : batchV d n k = ([], 2) := by unfold batchV; rw [if_neg (by simp [h]), if_pos h1]
theorem bt_long {d : VDev} {n k : Int} (h : validDev d = true) (h1 : (1 ≤ n ∧ n ≤ size d.stack - 1) ∧ (0 ≤ k ∧ k ≤ 60)) (h2 : 60 < 1 + 4 * k) : batchV d n k = ([], 3) := by unfold batchV; rw [if_neg (by simp [h]), if_neg (fun h => h h1), if_pos h2]
theorem bt_ok {d : VDev} {n : Int} {j : Nat} (h : validDev d = true) (h1 : (1 ≤ n ∧ n ≤ size d.stack - 1) ∧ (0 ≤ (j : Int) ∧ (j : Int) ≤ 60)) (h2 : ¬ 60 < 1 + 4 * (j : Int)) : batchV d n j = (batchL n j, 0) := by unfold batchV; rw [if_neg (by simp [h]), if_neg (fun h => h h1), if_neg h2]; rfl
end Go.W
namespace Go.W
open Go Go.Sx
def mkA (n : Nat) (k : Int) : List VAct := (List.range n).map fun (i : Nat) => ⟨IntKind.i8.wrap (k + 2 * (i : Int)), k + 2 * (i : Int) + 1⟩
theorem mkA_len (n : Nat) (k : Int) : (mkA n k).length = n := by simp [mkA]
theorem mkA_at {n : Nat} {k : Int} {i : Nat} (h : i < n) : (mkA n k).getD i zA = ⟨IntKind.i8.wrap (k + 2 * (i : Int)), k + 2 * (i : Int) + 1⟩ := by simp [mkA, List.getD, h]
theorem mkA_cell {n : Nat} {k : Int} {i j : Nat} (h : i < n) (hj : j < 2) : ((mkA n k).flatMap encA)[i * 2 + j]? = (encA ⟨IntKind.i8.wrap (k + 2 * (i : Int)), k + 2 * (i : Int) + 1⟩)[j]? := by
  rw [flat_get encA_len zA _ _ _ (by rw [mkA_len]; exact h) hj, mkA_at h]
end Go.W

/- Fewer acts, in plain numbers. -/
set_option linter.unusedVariables false
set_option linter.unusedSimpArgs false
namespace Go.W
open Go Go.Sx
theorem bt_len (d : VDev) (n k : Int) : (batchV d n k).1.length ≤ 61 := by
  unfold batchV
  split
  · simp
  · split
    · simp
    · split
      · simp
      · rename_i h
        rw [batchL_len]; omega
def isPulse (a : VAct) : Bool := decide (a.kind = 1 ∨ a.kind = 2)
def stepA (out : List VAct) (a : VAct) : List VAct :=
  if isPulse a = true ∧ a.n = 0 then out
  else if out.length = 0 ∨ (out.getD (out.length - 1) zA).kind ≠ a.kind ∨ a.kind = 5 then out ++ [a]
  else if isPulse a = true then out.set (out.length - 1) ⟨(out.getD (out.length - 1) zA).kind, (out.getD (out.length - 1) zA).n + a.n⟩
  else out.set (out.length - 1) a
def shortL (l : List VAct) (k : Nat) : List VAct := (l.take k).foldl stepA []
theorem shortL_succ {l : List VAct} {k : Nat} (h : k < l.length) : shortL l (k + 1) = stepA (shortL l k) (l.getD k zA) := by
  unfold shortL
  rw [List.take_succ_eq_append_getElem h, List.foldl_append]
  simp [List.getD, h]
theorem stepA_len (out : List VAct) (a : VAct) : (stepA out a).length ≤ out.length + 1 := by
  unfold stepA
  split
  · omega
  · split
    · simp
    · split <;> simp
theorem shortL_len (l : List VAct) : ∀ k, (shortL l k).length ≤ k
  | 0 => by simp [shortL]
  | k + 1 => by
    rcases Nat.lt_or_ge k l.length with h | h
    · rw [shortL_succ h]; have h1 := stepA_len (shortL l k) (l.getD k zA); have h2 := shortL_len l k; omega
    · have e : shortL l (k + 1) = shortL l k := by unfold shortL; rw [List.take_of_length_le (by omega), List.take_of_length_le h]
      rw [e]; have := shortL_len l k; omega
/-- How great the numbers are. -/
def Low (b : Int) (l : List VAct) : Prop := ∀ x ∈ l, -1 ≤ x.n ∧ x.n ≤ b
theorem Low.at_ {b : Int} {l : List VAct} (h : Low b l) {i : Nat} (hi : i < l.length) : -1 ≤ (l.getD i zA).n ∧ (l.getD i zA).n ≤ b := h _ (getD_mem zA hi)
theorem valid_n {a : VAct} (h : validAct a = true) : -1 ≤ a.n ∧ a.n ≤ 1000000000000 ∧ (isPulse a = true → 0 ≤ a.n) := by
  unfold validAct at h; rw [decide_eq_true_iff] at h
  refine ⟨by omega, by omega, fun hp => ?_⟩
  unfold isPulse at hp; rw [decide_eq_true_iff] at hp; omega
theorem stepA_low {out : List VAct} {a : VAct} {b : Int} (hb : 0 ≤ b) (h : Low b out) (ha : validAct a = true) : Low (b + 1000000000000) (stepA out a) := by
  have hv := valid_n ha
  have hw : Low (b + 1000000000000) out := fun x hx => by have := h x hx; omega
  unfold stepA
  split
  · exact hw
  · split
    · intro x hx
      rcases List.mem_append.1 hx with hx | hx
      · exact hw x hx
      · simp at hx; subst hx; omega
    · rename_i hne
      have hl : 0 < out.length := by omega
      have hlast := h.at_ (i := out.length - 1) (by omega)
      split
      · rename_i hp
        intro x hx
        rcases List.mem_or_eq_of_mem_set hx with hx | rfl
        · exact hw x hx
        · have := hv.2.2 hp
          show -1 ≤ (out.getD (out.length - 1) zA).n + a.n ∧ (out.getD (out.length - 1) zA).n + a.n ≤ b + 1000000000000
          omega
      · intro x hx
        rcases List.mem_or_eq_of_mem_set hx with hx | rfl
        · exact hw x hx
        · omega
theorem shortL_low {l : List VAct} (hv : ∀ i, i < l.length → validAct (l.getD i zA) = true) : ∀ k, k ≤ l.length → Low (k * 1000000000000) (shortL l k)
  | 0, _ => fun x hx => by simp [shortL] at hx
  | k + 1, hk => by
    have := stepA_low (by omega) (shortL_low hv k (by omega)) (hv k (by omega))
    rw [shortL_succ (by omega)]
    intro x hx
    have := this x hx
    omega
theorem st_skip {out : List VAct} {a : VAct} (h : isPulse a = true) (h0 : a.n = 0) : stepA out a = out := by unfold stepA; rw [if_pos ⟨h, h0⟩]
theorem st_new {out : List VAct} {a : VAct} (h : ¬ (isPulse a = true ∧ a.n = 0)) (h1 : out.length = 0 ∨ (out.getD (out.length - 1) zA).kind ≠ a.kind ∨ a.kind = 5) : stepA out a = out ++ [a] := by unfold stepA; rw [if_neg h, if_pos h1]
theorem st_add {out : List VAct} {a : VAct} (h : ¬ (isPulse a = true ∧ a.n = 0)) (h1 : ¬ (out.length = 0 ∨ (out.getD (out.length - 1) zA).kind ≠ a.kind ∨ a.kind = 5)) (h2 : isPulse a = true) : stepA out a = out.set (out.length - 1) ⟨(out.getD (out.length - 1) zA).kind, (out.getD (out.length - 1) zA).n + a.n⟩ := by unfold stepA; rw [if_neg h, if_neg h1, if_pos h2]
theorem st_put {out : List VAct} {a : VAct} (h : ¬ (isPulse a = true ∧ a.n = 0)) (h1 : ¬ (out.length = 0 ∨ (out.getD (out.length - 1) zA).kind ≠ a.kind ∨ a.kind = 5)) (h2 : isPulse a = false) : stepA out a = out.set (out.length - 1) a := by unfold stepA; rw [if_neg h, if_neg h1, if_neg (by simp [h2])]
/-- A number that is too great stays so. -/
def Over (out : List VAct) : Prop := ∃ i, i < out.length ∧ isPulse (out.getD i zA) = true ∧ 1000000000000 < (out.getD i zA).n
theorem getD_set {α : Type} {l : List α} {i j : Nat} {x d : α} (hj : j < l.length) : (l.set i x).getD j d = if i = j then x else l.getD j d := by
  simp only [List.getD, List.getElem?_set]
  by_cases h : i = j
  · subst h; simp [hj]
  · simp [h]
theorem over_step {out : List VAct} {a : VAct} (ha : validAct a = true) (h : Over out) : Over (stepA out a) := by
  obtain ⟨i, hi, hp, hn⟩ := h
  have hv := valid_n ha
  unfold stepA
  split
  · exact ⟨i, hi, hp, hn⟩
  · split
    · exact ⟨i, by simp; omega, by rw [show (out ++ [a]).getD i zA = out.getD i zA by simp only [List.getD, List.getElem?_append_left hi]]; exact ⟨hp, hn⟩⟩
    · rename_i h1 h2
      split
      · rename_i h3
        refine ⟨i, by simpa using hi, ?_⟩
        rw [getD_set hi]
        split
        · rename_i e
          subst e
          have := hv.2.2 h3
          refine ⟨by unfold isPulse at hp ⊢; exact hp, ?_⟩
          show 1000000000000 < (out.getD (out.length - 1) zA).n + a.n
          omega
        · exact ⟨hp, hn⟩
      · rename_i h3
        refine ⟨i, by simpa using hi, ?_⟩
        rw [getD_set hi]
        split
        · rename_i e
          subst e
          exfalso
          have hk : (out.getD (out.length - 1) zA).kind = a.kind := by
            by_cases hk : (out.getD (out.length - 1) zA).kind = a.kind
            · exact hk
            · exact absurd (.inr (.inl hk)) h2
          unfold isPulse at hp h3
          rw [hk] at hp
          exact h3 hp
        · exact ⟨hp, hn⟩
theorem over_later {l : List VAct} (hv : ∀ i, i < l.length → validAct (l.getD i zA) = true) {k : Nat} (h : Over (shortL l k)) : ∀ j, k + j ≤ l.length → Over (shortL l (k + j))
  | 0, _ => h
  | j + 1, hj => by
    rw [show k + (j + 1) = (k + j) + 1 by omega, shortL_succ (by omega)]
    exact over_step (hv _ (by omega)) (over_later hv h j (by omega))
def big (a : VAct) : Bool := decide (1000000000000 < a.n)
theorem over_any {out : List VAct} (h : Over out) : out.any big = true := by
  obtain ⟨i, hi, _, hn⟩ := h
  rw [List.any_eq_true]
  exact ⟨_, getD_mem zA hi, by unfold big; simpa using hn⟩
theorem low_any {out : List VAct} (h : Low 1000000000000 out) : out.any big = false := by
  rw [List.any_eq_false]
  intro x hx
  have := h x hx
  unfold big; simp; omega
def badA (a : VAct) : Bool := !validAct a
def afault (l : List VAct) : Int := if l.any badA = true then 1 else if 60 < (l.length : Int) then 3 else 0
theorem af_bad {l : List VAct} (h : l.any badA = true) : 1 = afault l := by unfold afault; rw [if_pos h]
theorem af_long {l : List VAct} (h : l.any badA = false) (h1 : 60 < (l.length : Int)) : 3 = afault l := by unfold afault; rw [if_neg (by simp [h]), if_pos h1]
theorem af_ok {l : List VAct} (h : l.any badA = false) (h1 : ¬ 60 < (l.length : Int)) : 0 = afault l := by unfold afault; rw [if_neg (by simp [h]), if_neg h1]
theorem af_zero {l : List VAct} (h : ¬ afault l ≠ 0) : (∀ i, i < l.length → validAct (l.getD i zA) = true) ∧ l.length ≤ 60 := by
  unfold afault at h
  split at h
  · exact absurd (by decide) h
  · rename_i h1
    split at h
    · exact absurd (by decide) h
    · refine ⟨fun i hi => ?_, by omega⟩
      have h2 : l.any badA = false := by simpa using h1
      rw [List.any_eq_false] at h2
      have := h2 _ (getD_mem zA hi)
      unfold badA at this
      simpa using this
theorem af_bad' {l : List VAct} {k : Nat} (hk : k < l.length) (h : validAct (l.getD k zA) = false) : afault l = 1 := by
  refine (af_bad ?_).symm
  rw [List.any_eq_true]
  exact ⟨_, getD_mem zA hk, by unfold badA; rw [h]; rfl⟩
theorem any_bad_f {l : List VAct} {k : Nat} (hk : ¬ k < l.length) (h : ∀ i, i < k → validAct (l.getD i zA) = true) : l.any badA = false := by
  rw [List.any_eq_false]
  intro x hx
  obtain ⟨i, hi, rfl⟩ := List.getElem_of_mem hx
  have := h i (by omega)
  simp only [List.getD, List.getElem?_eq_getElem hi, Option.getD_some] at this
  unfold badA; simp [this]
def shortV (l : List VAct) : List VAct × Int := if afault l ≠ 0 then ([], afault l) else if (shortL l l.length).any big = true then ([], 2) else (shortL l l.length, 0)
theorem sh_bad {l : List VAct} (h : afault l ≠ 0) : shortV l = ([], afault l) := by unfold shortV; rw [if_pos h]
theorem sh_big {l : List VAct} (h : ¬ afault l ≠ 0) (h1 : (shortL l l.length).any big = true) : shortV l = ([], 2) := by unfold shortV; rw [if_neg h, if_pos h1]
theorem sh_ok {l : List VAct} (h : ¬ afault l ≠ 0) (h1 : (shortL l l.length).any big = false) : shortV l = (shortL l l.length, 0) := by unfold shortV; rw [if_neg h, if_neg (by simp [h1])]
theorem sh_len (l : List VAct) : (shortV l).1.length ≤ l.length := by
  unfold shortV
  split
  · simp
  · split
    · simp
    · exact shortL_len l _
theorem isP_t {a : VAct} (h : a.kind = 1 ∨ a.kind = 2) : isPulse a = true := by unfold isPulse; exact decide_eq_true h
theorem isP_f {a : VAct} (h : ¬ (a.kind = 1 ∨ a.kind = 2)) : isPulse a = false := by unfold isPulse; exact decide_eq_false h
theorem nP {a : VAct} (h : isPulse a = true) (h1 : isPulse a = false) : False := by rw [h] at h1; exact absurd h1 (by decide)
theorem nPk {a : VAct} (h : isPulse a = true) (h1 : ¬ (a.kind = 1 ∨ a.kind = 2)) : False := nP h (isP_f h1)
theorem Low.any {b : Int} {l : List VAct} (h : Low b l) (hb : 0 ≤ b) (i : Nat) : -1 ≤ (l.getD i zA).n ∧ (l.getD i zA).n ≤ b := by
  rcases Nat.lt_or_ge i l.length with hi | hi
  · exact h.at_ hi
  · have e : l.getD i zA = zA := by simp [List.getD, List.getElem?_eq_none hi]
    rw [e]; exact ⟨by decide, hb⟩
def Fresh (out : List VAct) (a : VAct) : Prop := out.length = 0 ∨ (out.getD (out.length - 1) zA).kind ≠ a.kind ∨ a.kind = 5
theorem low_next {out : List VAct} {a : VAct} (h : Low 1000000000000 out) (ha : validAct a = true) (h3 : (isPulse a = true ∧ a.n = 0) ∨ Fresh out a ∨ ¬ 1000000000000 < ((stepA out a).getD (out.length - 1) zA).n) : Low 1000000000000 (stepA out a) := by
  have hv := valid_n ha
  by_cases h1 : isPulse a = true ∧ a.n = 0
  · rw [st_skip h1.1 h1.2]; exact h
  · by_cases h2 : Fresh out a
    · rw [st_new h1 h2]
      intro x hx
      rcases List.mem_append.1 hx with hx | hx
      · exact h x hx
      · simp at hx; subst hx; omega
    · have hl : 0 < out.length := by unfold Fresh at h2; omega
      have h3 := (h3.resolve_left h1).resolve_left h2
      cases hp : isPulse a with
      | true =>
        have hlast := h.at_ (i := out.length - 1) (by omega)
        have hv2 := hv.2.2 hp
        rw [st_add h1 h2 hp] at h3 ⊢
        rw [getD_set (by omega), if_pos rfl] at h3
        intro x hx
        rcases List.mem_or_eq_of_mem_set hx with hx | rfl
        · exact h x hx
        · show -1 ≤ (out.getD (out.length - 1) zA).n + a.n ∧ (out.getD (out.length - 1) zA).n + a.n ≤ 1000000000000
          have h3 : ¬ 1000000000000 < (out.getD (out.length - 1) zA).n + a.n := h3
          omega
      | false =>
        rw [st_put h1 h2 hp]
        intro x hx
        rcases List.mem_or_eq_of_mem_set hx with hx | rfl
        · exact h x hx
        · omega
theorem over_chk {out : List VAct} {a : VAct} (ha : validAct a = true) (h1 : ¬ (isPulse a = true ∧ a.n = 0)) (h2 : ¬ Fresh out a) (h3 : 1000000000000 < ((stepA out a).getD (out.length - 1) zA).n) : Over (stepA out a) := by
  have hl : 0 < out.length := by unfold Fresh at h2; omega
  have hv := valid_n ha
  have hk : (out.getD (out.length - 1) zA).kind = a.kind := by
    by_cases hk : (out.getD (out.length - 1) zA).kind = a.kind
    · exact hk
    · exact absurd (.inr (.inl hk)) h2
  cases hp : isPulse a with
  | true =>
    have e := st_add h1 h2 hp
    rw [e] at h3 ⊢
    refine ⟨out.length - 1, by simp; omega, ?_, h3⟩
    rw [getD_set (by omega), if_pos rfl]
    unfold isPulse at hp ⊢
    rw [hk]; exact hp
  | false =>
    rw [st_put h1 h2 hp, getD_set (by omega), if_pos rfl] at h3
    omega
theorem sh_same {l : List VAct} {k : Nat} (hk : k < l.length) (h1 : ¬ (isPulse (l.getD k zA) = true ∧ (l.getD k zA).n = 0)) (h2 : ¬ Fresh (shortL l k) (l.getD k zA)) : (shortL l (k + 1)).length = (shortL l k).length := by
  rw [shortL_succ hk]
  cases hp : isPulse (l.getD k zA) with
  | true => rw [st_add h1 h2 hp, List.length_set]
  | false => rw [st_put h1 h2 hp, List.length_set]
theorem shk_big {l : List VAct} {k : Nat} (hk : k = l.length) (h : ¬ afault l ≠ 0) (h1 : (shortL l k).any big = true) : shortV l = ([], 2) := by subst hk; exact sh_big h h1
theorem shk_ok {l : List VAct} {k : Nat} (hk : k = l.length) (h : ¬ afault l ≠ 0) (h1 : (shortL l k).any big = false) : shortV l = (shortL l k, 0) := by subst hk; exact sh_ok h h1
theorem shk_low {l : List VAct} {k : Nat} (hk : k = l.length) (h : ¬ afault l ≠ 0) (h1 : Low 1000000000000 (shortL l k)) : shortV l = (shortL l k, 0) := shk_ok hk h (low_any h1)
theorem shk_over {l : List VAct} {k : Nat} (hk : k < l.length) (h : ¬ afault l ≠ 0) (h1 : Over (shortL l (k + 1))) : shortV l = ([], 2) := by
  have := over_later (af_zero h).1 h1 (l.length - (k + 1)) (by omega)
  rw [show k + 1 + (l.length - (k + 1)) = l.length by omega] at this
  exact sh_big h (over_any this)
theorem shk_bad {l : List VAct} {k : Nat} (hk : k < l.length) (h : validAct (l.getD k zA) = false) : shortV l = ([], 1) := by
  have e := af_bad' hk h
  rw [sh_bad (by rw [e]; decide), e]
theorem shk_long {l : List VAct} (h : l.any badA = false) (h1 : 60 < (l.length : Int)) : shortV l = ([], 3) := by
  have e := (af_long h h1).symm
  rw [sh_bad (by rw [e]; decide), e]
theorem af_zero' {l : List VAct} (h : l.any badA = false) (h1 : ¬ 60 < (l.length : Int)) : ¬ afault l ≠ 0 := by rw [← af_ok h h1]; decide
theorem put_add {l : List VAct} {k : Nat} (hk : k < l.length) (h1 : ¬ (isPulse (l.getD k zA) = true ∧ (l.getD k zA).n = 0)) (h2 : ¬ Fresh (shortL l k) (l.getD k zA)) (h3 : isPulse (l.getD k zA) = true) {q : Nat} (hq : q = ((shortL l k).length - 1) * 2 + 1) : put ((shortL l k).flatMap encA) q [.int .i64 (((shortL l k).getD ((shortL l k).length - 1) zA).n + (l.getD k zA).n)] = (shortL l (k + 1)).flatMap encA := by
  rw [shortL_succ hk, st_add h1 h2 h3]
  exact flat_putp encA_len zA (shortL l k) _ _ (by unfold Fresh at h2; omega) 1 _ rfl rfl hq
theorem put_put {l : List VAct} {k : Nat} (hk : k < l.length) (h1 : ¬ (isPulse (l.getD k zA) = true ∧ (l.getD k zA).n = 0)) (h2 : ¬ Fresh (shortL l k) (l.getD k zA)) (h3 : isPulse (l.getD k zA) = false) {q : Nat} (hq : q = ((shortL l k).length - 1) * 2) : put ((shortL l k).flatMap encA) q (encA (l.getD k zA)) = (shortL l (k + 1)).flatMap encA := by
  rw [shortL_succ hk, st_put h1 h2 h3]
  exact flat_putp encA_len zA (shortL l k) _ _ (by unfold Fresh at h2; omega) 0 _ rfl rfl (by omega)
end Go.W

/- What is played, in plain numbers. -/
set_option linter.unusedVariables false
set_option linter.unusedSimpArgs false
namespace Go.W
open Go Go.Sx
def ticV (d : VDev) : VTic := ⟨d.tickets, d.shows, check d.tickets d.shows.l⟩
def runD (d : VDev) (l : List VAct) : Nat → VDev
  | 0 => d
  | k + 1 => (doV (runD d l k) (l.getD k zA)).1
def lostD (d : VDev) (l : List VAct) : Nat → Int
  | 0 => 0
  | k + 1 => lostD d l k + (doV (runD d l k) (l.getD k zA)).2.1
def notesL (d : VDev) (l : List VAct) : Nat → List VNote
  | 0 => []
  | k + 1 => notesL d l k ++ [⟨l.getD k zA, (doV (runD d l k) (l.getD k zA)).1.shows, (doV (runD d l k) (l.getD k zA)).2.1⟩]
def ticsL (d : VDev) (l : List VAct) : Nat → List VTic
  | 0 => []
  | k + 1 => if (l.getD k zA).kind = 5 then ticsL d l k ++ [ticV (doV (runD d l k) (l.getD k zA)).1] else ticsL d l k
def runC (d : VDev) (l : List VAct) : Nat → Int
  | 0 => 0
  | k + 1 => if runC d l k ≠ 0 then runC d l k else (doV (runD d l k) (l.getD k zA)).2.2
theorem runD_stack (d : VDev) (l : List VAct) : ∀ k, (runD d l k).stack = d.stack
  | 0 => rfl
  | k + 1 => by rw [runD, do_stack, runD_stack d l k]
theorem notesL_len (d : VDev) (l : List VAct) : ∀ k, (notesL d l k).length = k
  | 0 => rfl
  | k + 1 => by rw [notesL, List.length_append, notesL_len d l k]; rfl
theorem ticsL_len (d : VDev) (l : List VAct) : ∀ k, (ticsL d l k).length ≤ k
  | 0 => by simp [ticsL]
  | k + 1 => by
    have := ticsL_len d l k
    rw [ticsL]; split
    · rw [List.length_append]; simp; omega
    · omega
theorem tl_5 {d : VDev} {l : List VAct} {k : Nat} (h : (l.getD k zA).kind = 5) : ticsL d l (k + 1) = ticsL d l k ++ [ticV (doV (runD d l k) (l.getD k zA)).1] := by rw [ticsL, if_pos h]
theorem tl_n {d : VDev} {l : List VAct} {k : Nat} (h : ¬ (l.getD k zA).kind = 5) : ticsL d l (k + 1) = ticsL d l k := by rw [ticsL, if_neg h]
theorem rc_go {d : VDev} {l : List VAct} {k : Nat} (h : runC d l k = 0) : runC d l (k + 1) = (doV (runD d l k) (l.getD k zA)).2.2 := by rw [runC, if_neg (by simp [h])]
theorem rc_stay {d : VDev} {l : List VAct} {k : Nat} (h : runC d l k ≠ 0) : ∀ j, runC d l (k + j) = runC d l k
  | 0 => rfl
  | j + 1 => by
    have := rc_stay h j
    rw [show k + (j + 1) = (k + j) + 1 by omega, runC, if_pos (by rw [this]; exact h), this]
theorem run_ok {d : VDev} {l : List VAct} (hk : OkDev d) (hv : validDev d = true) (ha : ∀ i, i < l.length → validAct (l.getD i zA) = true) : ∀ k, k ≤ l.length → OkDev (runD d l k) ∧ validDev (runD d l k) = true
  | 0, _ => ⟨hk, hv⟩
  | k + 1, h => by
    have := run_ok hk hv ha k (by omega)
    exact do_ok this.1 this.2 (ha k (by omega))
theorem until_ge {d : VDev} (hO : DevOk d) (st : Int) : 1 ≤ untilV d st := (until_bd hO st).1
theorem pulse_lost {d : VDev} {n st : Int} (hO : DevOk d) (hn : 0 ≤ n ∧ n ≤ 1000000000000) : 0 ≤ (pulseV d n st).2 ∧ (pulseV d n st).2 ≤ 1000000000000 := by
  have hu := until_ge hO st
  unfold pulseV
  split
  · exact hn
  · split
    · rename_i h1 h2
      show 0 ≤ n - untilV d st ∧ n - untilV d st ≤ 1000000000000
      omega
    · show (0 : Int) ≤ 0 ∧ (0 : Int) ≤ 1000000000000
      omega
theorem do_lost {d : VDev} {a : VAct} (hk : OkDev d) (hv : validDev d = true) (ha : validAct a = true) : 0 ≤ (doV d a).2.1 ∧ (doV d a).2.1 ≤ 1000000000000 := by
  have hO := devOk hk.2.2.1 hv
  have han := act_n ha
  have hz : (0 : Int) ≤ 0 ∧ (0 : Int) ≤ 1000000000000 := by omega
  unfold doV
  split
  · exact pulse_lost hO (han.1 (.inl (by assumption)))
  · split
    · exact pulse_lost hO (han.1 (.inr (by assumption)))
    · split
      · split
        · exact hz
        · exact hz
      · split
        · exact hz
        · split
          · split
            · exact hz
            · exact hz
          · exact hz
theorem lost_bd {d : VDev} {l : List VAct} (hk : OkDev d) (hv : validDev d = true) (ha : ∀ i, i < l.length → validAct (l.getD i zA) = true) : ∀ k, k ≤ l.length → 0 ≤ lostD d l k ∧ lostD d l k ≤ k * 1000000000000
  | 0, _ => by simp [lostD]
  | k + 1, h => by
    have h1 := lost_bd hk hv ha k (by omega)
    have h2 := run_ok hk hv ha k (by omega)
    have h3 := do_lost h2.1 h2.2 (ha k (by omega))
    rw [lostD]; omega
def askV (d : VDev) (l : List VAct) : Int := if validDev d = false then 1 else afault l
theorem ask_bad {d : VDev} {l : List VAct} (h : validDev d = false) : askV d l = 1 := by unfold askV; rw [if_pos h]
theorem ask_on {d : VDev} {l : List VAct} (h : validDev d = true) : askV d l = afault l := by unfold askV; rw [if_neg (by simp [h])]
theorem ask_zero {d : VDev} {l : List VAct} (h : ¬ askV d l ≠ 0) : validDev d = true ∧ (∀ i, i < l.length → validAct (l.getD i zA) = true) ∧ l.length ≤ 60 := by
  unfold askV at h
  split at h
  · exact absurd (by decide) h
  · rename_i h1
    have := af_zero h
    exact ⟨by simpa using h1, this.1, this.2⟩
def runV (d : VDev) (l : List VAct) : VDev × List VNote × List VTic × Int × Int :=
  if askV d l ≠ 0 then (zDev, [], [], 0, askV d l)
  else if runC d l l.length ≠ 0 then (zDev, [], [], 0, runC d l l.length)
  else if 1000000000000 < lostD d l l.length then (zDev, [], [], 0, 2)
  else (runD d l l.length, notesL d l l.length, ticsL d l l.length, lostD d l l.length, 0)
theorem rv_ask {d : VDev} {l : List VAct} (h : askV d l ≠ 0) : runV d l = (zDev, [], [], 0, askV d l) := by unfold runV; rw [if_pos h]
theorem rv_code {d : VDev} {l : List VAct} {k : Nat} (h : ¬ askV d l ≠ 0) (hk : k ≤ l.length) (h1 : runC d l k ≠ 0) : runV d l = (zDev, [], [], 0, runC d l k) := by
  have e := rc_stay h1 (l.length - k)
  rw [show k + (l.length - k) = l.length by omega] at e
  unfold runV; rw [if_neg h, if_pos (by rw [e]; exact h1), e]
theorem rv_over {d : VDev} {l : List VAct} {k : Nat} (h : ¬ askV d l ≠ 0) (hk : k = l.length) (h1 : runC d l k = 0) (h2 : 1000000000000 < lostD d l k) : runV d l = (zDev, [], [], 0, 2) := by
  subst hk; unfold runV; rw [if_neg h, if_neg (by simp [h1]), if_pos h2]
theorem rv_ok {d : VDev} {l : List VAct} {k : Nat} (h : ¬ askV d l ≠ 0) (hk : k = l.length) (h1 : runC d l k = 0) (h2 : ¬ 1000000000000 < lostD d l k) : runV d l = (runD d l k, notesL d l k, ticsL d l k, lostD d l k, 0) := by
  subst hk; unfold runV; rw [if_neg h, if_neg (by simp [h1]), if_neg h2]
def sumN (ns : List VNote) : Nat → Int
  | 0 => 0
  | k + 1 => sumN ns k + (ns.getD k zN).lost
theorem notesL_at (d : VDev) (l : List VAct) : ∀ k i, i < k → (notesL d l k).getD i zN = ⟨l.getD i zA, (doV (runD d l i) (l.getD i zA)).1.shows, (doV (runD d l i) (l.getD i zA)).2.1⟩
  | k + 1, i, h => by
    have hl := notesL_len d l k
    rw [notesL]
    rcases Nat.lt_or_ge i k with hi | hi
    · rw [show (notesL d l k ++ [(⟨l.getD k zA, (doV (runD d l k) (l.getD k zA)).1.shows, (doV (runD d l k) (l.getD k zA)).2.1⟩ : VNote)]).getD i zN = (notesL d l k).getD i zN by simp only [List.getD, List.getElem?_append_left (show i < (notesL d l k).length by omega)]]
      exact notesL_at d l k i hi
    · obtain rfl : i = k := by omega
      simp only [List.getD, List.getElem?_append_right (show (notesL d l i).length ≤ i by omega), hl, Nat.sub_self]; rfl
theorem sumN_notes (d : VDev) (l : List VAct) (n : Nat) : ∀ k, k ≤ n → sumN (notesL d l n) k = lostD d l k
  | 0, _ => rfl
  | k + 1, h => by rw [sumN, lostD, sumN_notes d l n k (by omega), notesL_at d l n k (by omega)]
/-- What a run's notes are known to be. -/
def NotesOk (ns : List VNote) (s : Int) : Prop := ns.length ≤ 60 ∧ sumN ns ns.length = s ∧ ∀ k, k ≤ ns.length → 0 ≤ sumN ns k ∧ sumN ns k ≤ k * 1000000000000
theorem run_notes {d : VDev} {l : List VAct} (hk : OkDev d) : NotesOk (runV d l).2.1 (runV d l).2.2.2.1 := by
  have hnil : NotesOk [] 0 := ⟨by simp, rfl, fun k hk => by simp at hk; subst hk; simp [sumN]⟩
  unfold runV
  split
  · exact hnil
  · rename_i h
    obtain ⟨hv, ha, hn⟩ := ask_zero h
    split
    · exact hnil
    · split
      · exact hnil
      · refine ⟨by show (notesL d l l.length).length ≤ 60; rw [notesL_len]; exact hn, ?_, fun k hkl => ?_⟩
        · show sumN (notesL d l l.length) (notesL d l l.length).length = lostD d l l.length
          rw [notesL_len]; exact sumN_notes d l _ _ (Nat.le_refl _)
        · have hkl : k ≤ (notesL d l l.length).length := hkl
          rw [notesL_len] at hkl
          show 0 ≤ sumN (notesL d l l.length) k ∧ sumN (notesL d l l.length) k ≤ k * 1000000000000
          rw [sumN_notes d l _ _ hkl]; exact lost_bd hk hv ha k hkl
theorem rv_tics (d : VDev) (l : List VAct) : (runV d l).2.2.1.length ≤ l.length := by
  unfold runV
  split
  · simp
  · split
    · simp
    · split
      · simp
      · exact ticsL_len d l _
theorem rv_stack (d : VDev) (l : List VAct) : (runV d l).1.stack.length ≤ d.stack.length := by
  unfold runV
  split
  · simp [zDev]
  · split
    · simp [zDev]
    · split
      · simp [zDev]
      · show (runD d l l.length).stack.length ≤ _
        rw [runD_stack]; exact Nat.le_refl _
/-- A ticket asked for. -/
def a5 : VAct := ⟨5, 0⟩
def printV (d : VDev) : VDev × VTic × Int := if (doActV d a5).2.2 ≠ 0 then (zDev, zT, (doActV d a5).2.2) else ((doActV d a5).1, ticV (doActV d a5).1, 0)
theorem pr_no {d : VDev} (h : (doActV d a5).2.2 ≠ 0) : printV d = (zDev, zT, (doActV d a5).2.2) := by unfold printV; rw [if_pos h]
theorem pr_ok {d : VDev} (h : ¬ (doActV d a5).2.2 ≠ 0) : printV d = ((doActV d a5).1, ticV (doActV d a5).1, 0) := by unfold printV; rw [if_neg h]
theorem do5_lost (d : VDev) : (doV d a5).2.1 = 0 := by
  by_cases h : d.tickets = 1000000
  · rw [do_5n rfl h]
  · rw [do_5 rfl h]
theorem run_5 (d : VDev) : (runV d [a5]).2.2.2.2 = (doActV d a5).2.2 ∧ (¬ (doActV d a5).2.2 ≠ 0 → (runV d [a5]).1 = (doActV d a5).1 ∧ (runV d [a5]).2.2.1 = [ticV (doActV d a5).1]) := by
  have hva : validAct a5 = true := by decide
  have hl : lostD d [a5] 1 = 0 := by show 0 + (doV d a5).2.1 = 0; rw [do5_lost]; rfl
  have hc : runC d [a5] 1 = (doV d a5).2.2 := rc_go rfl
  cases hv : validDev d with
  | false =>
    have e := ask_bad (l := [a5]) hv
    rw [rv_ask (by rw [e]; decide), e, da_bad (by simp [hv])]
    exact ⟨rfl, fun h => absurd (by decide) h⟩
  | true =>
    have e : ¬ askV d [a5] ≠ 0 := by rw [ask_on hv]; decide
    by_cases h : (doV d a5).2.2 ≠ 0
    · rw [rv_code (k := 1) e (by simp) (by rw [hc]; exact h), hc, da_no ⟨hv, hva⟩ h]
      exact ⟨rfl, fun h1 => absurd h h1⟩
    · rw [rv_ok (k := 1) e rfl (by rw [hc]; omega) (by rw [hl]; omega), da_ok ⟨hv, hva⟩ h]
      exact ⟨by show (0 : Int) = _; omega, fun _ => ⟨rfl, tl_5 (d := d) (l := [a5]) (k := 0) rfl⟩⟩
def okB (d : VDev) (l : List VAct) : Nat → Bool
  | 0 => validDev d
  | k + 1 => validAct (l.getD k zA)
theorem ok_all {d : VDev} {l : List VAct} {k : Nat} (hk : k ≤ l.length) (hall : ∀ i, i < k → okB d l i = true) (h : okB d l k = true) : validDev d = true ∧ ∀ i, i < k → validAct (l.getD i zA) = true := by
  have h1 : ∀ i, i ≤ k → okB d l i = true := fun i hi => by
    rcases Nat.lt_or_ge i k with h2 | h2
    · exact hall i h2
    · obtain rfl : i = k := by omega
      exact h
  exact ⟨h1 0 (by omega), fun i hi => h1 (i + 1) (by omega)⟩
theorem ask_f {d : VDev} {l : List VAct} {k : Nat} (hk : k ≤ l.length) (hall : ∀ i, i < k → okB d l i = true) (h : okB d l k = false) : 1 = askV d l := by
  cases k with
  | zero => exact (ask_bad h).symm
  | succ k =>
    have h1 := ok_all (k := k) (by omega) (fun i hi => hall i (by omega)) (hall k (by omega))
    rw [ask_on h1.1]
    exact (af_bad' (k := k) (by omega) h).symm
theorem ask_t {d : VDev} {l : List VAct} {k : Nat} (hk' : ¬ k < l.length) (hk : k ≤ l.length) (hall : ∀ i, i < k → okB d l i = true) (h : okB d l k = true) : validDev d = true ∧ l.any badA = false := by
  have h1 := ok_all hk hall h
  exact ⟨h1.1, any_bad_f hk' h1.2⟩
theorem ask_3 {d : VDev} {l : List VAct} {k : Nat} (hk' : ¬ k < l.length) (hk : k ≤ l.length) (hall : ∀ i, i < k → okB d l i = true) (h : okB d l k = true) (h1 : 60 < (l.length : Int)) : 3 = askV d l := by
  have h2 := ask_t hk' hk hall h
  rw [ask_on h2.1]; exact af_long h2.2 h1
theorem ask_0 {d : VDev} {l : List VAct} {k : Nat} (hk' : ¬ k < l.length) (hk : k ≤ l.length) (hall : ∀ i, i < k → okB d l i = true) (h : okB d l k = true) (h1 : ¬ 60 < (l.length : Int)) : 0 = askV d l := by
  have h2 := ask_t hk' hk hall h
  rw [ask_on h2.1]; exact af_ok h2.2 h1
def cdV (d : VDev) (l : List VAct) (k : Nat) : Int := if askV d l ≠ 0 then askV d l else runC d l k
theorem cd_0 (d : VDev) (l : List VAct) : cdV d l 0 = askV d l := by
  unfold cdV; split
  · rfl
  · rename_i h; show (0 : Int) = _; omega
theorem cd_zero {d : VDev} {l : List VAct} {k : Nat} (h : cdV d l k = 0) : ¬ askV d l ≠ 0 ∧ runC d l k = 0 := by
  unfold cdV at h; split at h
  · rename_i h1; exact absurd h h1
  · rename_i h1; exact ⟨h1, h⟩
theorem cd_go {d : VDev} {l : List VAct} {k : Nat} (h : cdV d l k = 0) : cdV d l (k + 1) = (doV (runD d l k) (l.getD k zA)).2.2 := by
  obtain ⟨h1, h2⟩ := cd_zero h
  unfold cdV; rw [if_neg h1, rc_go h2]
theorem rv_cd {d : VDev} {l : List VAct} {k : Nat} (hk : k ≤ l.length) (h : cdV d l k ≠ 0) : runV d l = (zDev, [], [], 0, cdV d l k) := by
  by_cases h1 : askV d l ≠ 0
  · rw [rv_ask h1, show cdV d l k = askV d l from if_pos h1]
  · have e : cdV d l k = runC d l k := if_neg h1
    rw [e] at h ⊢
    exact rv_code h1 hk h
theorem rv_cover {d : VDev} {l : List VAct} {k : Nat} (hk' : ¬ k < l.length) (hk : k ≤ l.length) (h : cdV d l k = 0) (h2 : 1000000000000 < lostD d l k) : runV d l = (zDev, [], [], 0, 2) :=
  rv_over (cd_zero h).1 (by omega) (cd_zero h).2 h2
theorem rv_cok {d : VDev} {l : List VAct} {k : Nat} (hk' : ¬ k < l.length) (hk : k ≤ l.length) (h : cdV d l k = 0) (h2 : ¬ 1000000000000 < lostD d l k) : runV d l = (runD d l k, notesL d l k, ticsL d l k, lostD d l k, 0) :=
  rv_ok (cd_zero h).1 (by omega) (cd_zero h).2 h2
theorem da_dev {d : VDev} {a : VAct} (hk : OkDev d) (h : ¬ (doActV d a).2.2 ≠ 0) : OkDev (doActV d a).1 ∧ validDev (doActV d a).1 = true := by
  by_cases h1 : validDev d = true ∧ validAct a = true
  · by_cases h2 : (doV d a).2.2 ≠ 0
    · rw [da_no h1 h2] at h; exact absurd h2 h
    · rw [da_ok h1 h2]; exact do_ok hk h1.1 h1.2
  · rw [da_bad h1] at h; exact absurd (by decide) h
theorem a5_ok : OkAct a5 := by unfold OkAct I64 a5; decide
theorem prs_no {d : VDev} (h : (runV d [a5]).2.2.2.2 ≠ 0) : printV d = (zDev, zT, (runV d [a5]).2.2.2.2) := by
  have e := (run_5 d).1
  rw [pr_no (by rw [← e]; exact h), e]
theorem prs_ok {d : VDev} (h : ¬ (runV d [a5]).2.2.2.2 ≠ 0) : printV d = ((runV d [a5]).1, (runV d [a5]).2.2.1.getD 0 zT, 0) := by
  have e := (run_5 d).1
  have h1 : ¬ (doActV d a5).2.2 ≠ 0 := by rw [← e]; exact h
  obtain ⟨e1, e2⟩ := (run_5 d).2 h1
  rw [pr_ok h1, e1, e2]; rfl
theorem prs_len (d : VDev) : (runV d [a5]).2.2.2.2 ≠ 0 ∨ 0 < (runV d [a5]).2.2.1.length := by
  by_cases h : (runV d [a5]).2.2.2.2 ≠ 0
  · exact .inl h
  · refine .inr ?_
    have e := (run_5 d).1
    obtain ⟨e1, e2⟩ := (run_5 d).2 (by rw [← e]; exact h)
    rw [e2]; simp
theorem pr_stack (d : VDev) : (printV d).1.stack.length ≤ d.stack.length := by
  unfold printV; split
  · simp [zDev]
  · exact da_len d a5
end Go.W

/- What is played, as the program plays it, in plain numbers. -/
set_option linter.unusedVariables false
set_option linter.unusedSimpArgs false
namespace Go.W
open Go Go.Sx
def notesR (d : VDev) (l : List VAct) : List VNote × Int × Int :=
  if runC d l l.length ≠ 0 then ([], 0, runC d l l.length) else if 1000000000000 < lostD d l l.length then ([], 0, 2) else (notesL d l l.length, lostD d l l.length, 0)
theorem rc_hit {d : VDev} {l : List VAct} {k : Nat} (hk : k < l.length) (h0 : runC d l k = 0) (h : (doV (runD d l k) (l.getD k zA)).2.2 ≠ 0) : runC d l l.length = (doV (runD d l k) (l.getD k zA)).2.2 := by
  have e := rc_go h0
  have := rc_stay (k := k + 1) (by rw [e]; exact h) (l.length - (k + 1))
  rw [show k + 1 + (l.length - (k + 1)) = l.length by omega, e] at this
  exact this
theorem nr_code {d : VDev} {l : List VAct} {k : Nat} (hk : k < l.length) (h0 : runC d l k = 0) (h : (doV (runD d l k) (l.getD k zA)).2.2 ≠ 0) : notesR d l = ([], 0, (doV (runD d l k) (l.getD k zA)).2.2) := by
  have e := rc_hit hk h0 h
  unfold notesR; rw [if_pos (by rw [e]; exact h), e]
theorem nr_over {d : VDev} {l : List VAct} {k : Nat} (hk : ¬ k < l.length) (hk' : k ≤ l.length) (h0 : runC d l k = 0) (h : 1000000000000 < lostD d l k) : notesR d l = ([], 0, 2) := by
  obtain rfl : k = l.length := by omega
  unfold notesR; rw [if_neg (by simp [h0]), if_pos h]
theorem nr_ok {d : VDev} {l : List VAct} {k : Nat} (hk : ¬ k < l.length) (hk' : k ≤ l.length) (h0 : runC d l k = 0) (h : ¬ 1000000000000 < lostD d l k) : notesR d l = (notesL d l k, lostD d l k, 0) := by
  obtain rfl : k = l.length := by omega
  unfold notesR; rw [if_neg (by simp [h0]), if_neg h]
theorem rv_vd {d : VDev} {l : List VAct} (h : validDev d = false) : runV d l = (zDev, [], [], 0, 1) := by
  have e := ask_bad (l := l) h
  rw [rv_ask (by rw [e]; decide), e]
theorem rv_af {d : VDev} {l : List VAct} (h : validDev d = true) (h1 : afault l ≠ 0) : runV d l = (zDev, [], [], 0, afault l) := by
  have e := ask_on (l := l) h
  rw [rv_ask (by rw [e]; exact h1), e]
theorem rv_nc {d : VDev} {l : List VAct} (h : validDev d = true) (h1 : ¬ afault l ≠ 0) (h2 : (notesR d l).2.2 ≠ 0) : runV d l = (zDev, [], [], 0, (notesR d l).2.2) := by
  have e : ¬ askV d l ≠ 0 := by rw [ask_on h]; exact h1
  unfold runV; rw [if_neg e]
  unfold notesR at h2 ⊢
  by_cases h3 : runC d l l.length ≠ 0
  · rw [if_pos h3, if_pos h3]
  · rw [if_neg h3] at h2 ⊢
    by_cases h4 : 1000000000000 < lostD d l l.length
    · rw [if_pos h4, if_neg h3, if_pos h4]
    · rw [if_neg h4] at h2; exact absurd rfl h2
theorem rv_no {d : VDev} {l : List VAct} (h : validDev d = true) (h1 : ¬ afault l ≠ 0) (h2 : ¬ (notesR d l).2.2 ≠ 0) {kd kt : Nat} (hx : runC d l l.length = 0 → kd = l.length ∧ kt = l.length) : runV d l = (runD d l kd, (notesR d l).1, ticsL d l kt, (notesR d l).2.1, 0) := by
  have e : ¬ askV d l ≠ 0 := by rw [ask_on h]; exact h1
  unfold runV; rw [if_neg e]
  unfold notesR at h2 ⊢
  by_cases h3 : runC d l l.length ≠ 0
  · rw [if_pos h3] at h2; exact absurd h3 h2
  · rw [if_neg h3] at h2 ⊢
    obtain ⟨e1, e2⟩ := hx (by omega)
    by_cases h4 : 1000000000000 < lostD d l l.length
    · rw [if_pos h4] at h2; exact absurd (by decide) h2
    · rw [if_neg h4, if_neg h3, if_neg h4, e1, e2]
theorem nr_len (d : VDev) (l : List VAct) : (notesR d l).1.length ≤ l.length := by
  unfold notesR; split
  · simp
  · split
    · simp
    · show (notesL d l l.length).length ≤ _
      rw [notesL_len]; exact Nat.le_refl _
end Go.W

/- Marks in lists of tickets and of notes. -/
set_option linter.unusedVariables false
set_option linter.unusedSimpArgs false
namespace Go.W
open Go Go.Sx
def digK (k : Int) : Dig := ⟨(k + ((0 : Nat) : Int)) % 256, (k + ((1 : Nat) : Int)) % 256, (k + ((2 : Nat) : Int)) % 256, (k + ((3 : Nat) : Int)) % 256, (k + ((4 : Nat) : Int)) % 256, (k + ((5 : Nat) : Int)) % 256, (k + ((6 : Nat) : Int)) % 256, (k + ((7 : Nat) : Int)) % 256⟩
def tk (k : Int) (i : Nat) : VTic := ⟨k + 10 * (i : Int), digK (k + 10 * (i : Int) + 1), IntKind.u16.wrap (k + 10 * (i : Int) + 1 + ((8 : Nat) : Int))⟩
def mkT (n : Nat) (k : Int) : List VTic := (List.range n).map (tk k)
theorem mkT_len (n : Nat) (k : Int) : (mkT n k).length = n := by simp [mkT]
theorem mkT_at {n : Nat} {k : Int} {i : Nat} (h : i < n) : (mkT n k).getD i zT = tk k i := by simp [mkT, List.getD, h]
theorem mkT_cell {n : Nat} {k : Int} {i j : Nat} (h : i < n) (hj : j < 10) : ((mkT n k).flatMap encT)[i * 10 + j]? = (encT (tk k i))[j]? := by
  rw [flat_get encT_len zT _ _ _ (by rw [mkT_len]; exact h) hj, mkT_at h]
theorem mkT_dig {n : Nat} {k : Int} {i j q : Nat} (h : i < n) (hj : j < 8) (hq : q = i * 10 + 1 + j) : ((mkT n k).flatMap encT)[q]? = some (.int .u8 ((k + 10 * i + 1 + j) % 256)) := by
  rw [hq, show i * 10 + 1 + j = i * 10 + (1 + j) by omega, mkT_cell h (by omega)]
  match j, hj with
  | 0, _ | 1, _ | 2, _ | 3, _ | 4, _ | 5, _ | 6, _ | 7, _ => rfl
def nk (k : Int) (i : Nat) : VNote := ⟨⟨IntKind.i8.wrap (k + 11 * (i : Int)), k + 11 * (i : Int) + 1⟩, digK (k + 11 * (i : Int) + 1 + 1), k + 11 * (i : Int) + 1 + 1 + ((8 : Nat) : Int)⟩
def mkN (n : Nat) (k : Int) : List VNote := (List.range n).map (nk k)
theorem mkN_len (n : Nat) (k : Int) : (mkN n k).length = n := by simp [mkN]
theorem mkN_at {n : Nat} {k : Int} {i : Nat} (h : i < n) : (mkN n k).getD i zN = nk k i := by simp [mkN, List.getD, h]
theorem mkN_cell {n : Nat} {k : Int} {i j : Nat} (h : i < n) (hj : j < 11) : ((mkN n k).flatMap encN)[i * 11 + j]? = (encN (nk k i))[j]? := by
  rw [flat_get encN_len zN _ _ _ (by rw [mkN_len]; exact h) hj, mkN_at h]
theorem mkN_dig {n : Nat} {k : Int} {i j q : Nat} (h : i < n) (hj : j < 8) (hq : q = i * 11 + 2 + j) : ((mkN n k).flatMap encN)[q]? = some (.int .u8 ((k + 11 * i + 1 + 1 + j) % 256)) := by
  rw [hq, show i * 11 + 2 + j = i * 11 + (2 + j) by omega, mkN_cell h (by omega)]
  match j, hj with
  | 0, _ | 1, _ | 2, _ | 3, _ | 4, _ | 5, _ | 6, _ | 7, _ => rfl
theorem rv_notes_len {d : VDev} {l : List VAct} (hk : OkDev d) : (runV d l).2.1.length ≤ 60 := (run_notes hk).1
theorem rv_tics_len (d : VDev) (l : List VAct) : (runV d l).2.2.1.length ≤ 60 := by
  unfold runV
  split
  · simp
  · rename_i h
    have hn := (ask_zero h).2.2
    split
    · simp
    · split
      · simp
      · show (ticsL d l l.length).length ≤ 60
        have := ticsL_len d l l.length
        omega
end Go.W

/- Numbers that lack, in plain numbers. -/
set_option linter.unusedVariables false
set_option linter.unusedSimpArgs false
namespace Go.W
open Go Go.Sx
def mkI (n : Nat) (k : Int) : List Int := (List.range n).map fun (i : Nat) => k + (i : Int)
theorem mkI_len (n : Nat) (k : Int) : (mkI n k).length = n := by simp [mkI]
theorem mkI_at {n : Nat} {k : Int} {i : Nat} (h : i < n) : (mkI n k).getD i 0 = k + (i : Int) := by simp [mkI, List.getD, h]
def hasI (s : List Int) (n : Int) : Bool := decide (∃ i, i < s.length ∧ s.getD i 0 = n)
theorem has_t {s : List Int} {n : Int} {k : Nat} (hk : k < s.length) (h : s.getD k 0 = n) : true = hasI s n := by unfold hasI; exact (decide_eq_true ⟨k, hk, h⟩).symm
theorem has_f {s : List Int} {n : Int} {k : Nat} (hk : ¬ k < s.length) (h : ∀ i, i < k → s.getD i 0 ≠ n) : false = hasI s n := by
  unfold hasI; exact (decide_eq_false fun ⟨i, hi, e⟩ => h i (by omega) e).symm
def numsL (l : List VTic) : Nat → List Int
  | 0 => []
  | k + 1 => if hasI (numsL l k) (l.getD k zT).number = true then numsL l k else numsL l k ++ [(l.getD k zT).number]
def mostL (l : List VTic) : Nat → Int
  | 0 => 0
  | k + 1 => max (mostL l k) (l.getD k zT).number
def lackL (ns : List Int) : Nat → List Int
  | 0 => []
  | j + 1 => if hasI ns ((j : Int) + 1) = true then lackL ns j else lackL ns j ++ [(j : Int) + 1]
theorem nl_t {l : List VTic} {k : Nat} (h : hasI (numsL l k) (l.getD k zT).number = true) : numsL l (k + 1) = numsL l k := by rw [numsL, if_pos h]
theorem nl_f {l : List VTic} {k : Nat} (h : hasI (numsL l k) (l.getD k zT).number = false) : numsL l (k + 1) = numsL l k ++ [(l.getD k zT).number] := by rw [numsL, if_neg (by rw [h]; decide)]
theorem ll_t {ns : List Int} {j : Nat} (h : hasI ns ((j : Int) + 1) = true) : lackL ns (j + 1) = lackL ns j := by rw [lackL, if_pos h]
theorem ll_f {ns : List Int} {j : Nat} (h : hasI ns ((j : Int) + 1) = false) : lackL ns (j + 1) = lackL ns j ++ [(j : Int) + 1] := by rw [lackL, if_neg (by rw [h]; decide)]
theorem numsL_len (l : List VTic) : ∀ k, (numsL l k).length ≤ k
  | 0 => by simp [numsL]
  | k + 1 => by
    have := numsL_len l k
    rw [numsL]; split
    · omega
    · rw [List.length_append]; simp; omega
theorem lackL_len (ns : List Int) : ∀ k, (lackL ns k).length ≤ k
  | 0 => by simp [lackL]
  | k + 1 => by
    have := lackL_len ns k
    rw [lackL]; split
    · omega
    · rw [List.length_append]; simp; omega
def badG (s : List Int) (l : List VTic) (i : Nat) : Bool := !genT s (l.getD i zT)
theorem gen_n {s : List Int} {t : VTic} (h : genT s t = true) : 1 ≤ t.number ∧ t.number ≤ 1000000 := by unfold genT at h; rw [decide_eq_true_iff] at h; exact h.1
theorem most_bd {s : List Int} {l : List VTic} : ∀ k, (∀ i, i < k → badG s l i = false) → 0 ≤ mostL l k ∧ mostL l k ≤ 1000000
  | 0, _ => by simp [mostL]
  | k + 1, h => by
    have h1 := most_bd (s := s) (l := l) k fun i hi => h i (by omega)
    have h2 := h k (by omega)
    unfold badG at h2
    have h3 := gen_n (s := s) (t := l.getD k zT) (by simpa using h2)
    rw [mostL]; omega
def missV (s : List Int) (l : List VTic) : List Int × Int :=
  if tfault s l.length ≠ 0 then ([], tfault s l.length)
  else match firstB (badG s l) l.length with
    | some _ => ([], 8)
    | none => if 1000 < mostL l l.length - (numsL l l.length).length then ([], 2) else (lackL (numsL l l.length) (mostL l l.length).toNat, 0)
theorem mi_tf {s : List Int} {l : List VTic} (h : tfault s l.length ≠ 0) : missV s l = ([], tfault s l.length) := by unfold missV; rw [if_pos h]
theorem mi_bad {s : List Int} {l : List VTic} {k : Nat} (h : ¬ tfault s l.length ≠ 0) (hk : k < l.length) (hall : ∀ i, i < k → badG s l i = false) (hb : badG s l k = true) : missV s l = ([], 8) := by
  unfold missV; rw [if_neg h, firstB_hit hk hall hb]
theorem mi_far {s : List Int} {l : List VTic} {k : Nat} (h : ¬ tfault s l.length ≠ 0) (hk : k = l.length) (hall : ∀ i, i < k → badG s l i = false) (h1 : 1000 < mostL l k - (numsL l k).length) : missV s l = ([], 2) := by
  subst hk; unfold missV; rw [if_neg h, firstB_none (k := l.length) (by omega) hall]; exact if_pos h1
theorem mi_ok {s : List Int} {l : List VTic} {k j : Nat} (h : ¬ tfault s l.length ≠ 0) (hk : k = l.length) (hall : ∀ i, i < k → badG s l i = false) (h1 : ¬ 1000 < mostL l k - (numsL l k).length) (hj : j = (mostL l k).toNat) : missV s l = (lackL (numsL l k) j, 0) := by
  subst hk hj; unfold missV; rw [if_neg h, firstB_none (k := l.length) (by omega) hall]; exact if_neg h1
theorem mi_len {s : List Int} {l : List VTic} : (missV s l).1.length ≤ 1000000 := by
  unfold missV
  split
  · simp
  · split
    · simp
    · rename_i h
      split
      · simp
      · show (lackL _ _).length ≤ _
        have h1 := lackL_len (numsL l l.length) (mostL l l.length).toNat
        have h2 : ∀ i, i < l.length → badG s l i = false := fun i hi => by
          unfold firstB at h
          rw [List.find?_eq_none] at h
          simpa using h i (by simpa using hi)
        have h3 := most_bd (s := s) (l := l) l.length h2
        omega
theorem gbad {s : List Int} {l : List VTic} {k : Nat} (h : genT s (l.getD k zT) = false) : badG s l k = true := by unfold badG; rw [h]; rfl
theorem ggood {s : List Int} {l : List VTic} {k : Nat} (h : genT s (l.getD k zT) = true) : badG s l k = false := by unfold badG; rw [h]; rfl
end Go.W

/- Readings and totals in plain numbers. -/
set_option linter.unusedVariables false
set_option linter.unusedSimpArgs false
namespace Go.W
open Go Go.Sx
structure VP where
  a : Int
  b : Int
def encP (p : VP) : List Value := [.int .i64 p.a, .int .i64 p.b]
theorem encP_len : ∀ p, (encP p).length = 2 := fun _ => rfl
def zP : VP := ⟨0, 0⟩
def OkP (p : VP) : Prop := I64 p.a ∧ I64 p.b
def sameP (x y : VP) : Bool := decide (x.a = y.a ∧ x.b = y.b)
theorem sameP_refl (x : VP) : sameP x x = true := by simp [sameP]
theorem samePs_refl (s : List VP) : allEq sameP zP s s = true := allEq_refl sameP_refl _ _
def mkP (n : Nat) (k : Int) : List VP := (List.range n).map fun (i : Nat) => ⟨k + 2 * (i : Int), k + 2 * (i : Int) + 1⟩
theorem mkP_len (n : Nat) (k : Int) : (mkP n k).length = n := by simp [mkP]
theorem mkP_at {n : Nat} {k : Int} {i : Nat} (h : i < n) : (mkP n k).getD i zP = ⟨k + 2 * (i : Int), k + 2 * (i : Int) + 1⟩ := by simp [mkP, List.getD, h]
theorem mkP_cell {n : Nat} {k : Int} {i j : Nat} (h : i < n) (hj : j < 2) : ((mkP n k).flatMap encP)[i * 2 + j]? = (encP ⟨k + 2 * (i : Int), k + 2 * (i : Int) + 1⟩)[j]? := by
  rw [← mkP_at h]
  exact flat_get encP_len zP _ _ _ (by rw [mkP_len]; exact h) hj
/-! totals -/
def okT (l : List VP) (i : Nat) : Bool := decide (0 ≤ (l.getD i zP).a ∧ (l.getD i zP).a ≤ 100000 ∧ 0 ≤ (l.getD i zP).b ∧ (l.getD i zP).b ≤ 1000000000000 ∧ (0 < i → (l.getD (i - 1) zP).a < (l.getD i zP).a ∧ (l.getD (i - 1) zP).b ≤ (l.getD i zP).b))
def validTot (l : List VP) : Bool := decide (l.length ≤ 60) && (List.range l.length).all (okT l)
theorem vt_long {l : List VP} (h : ¬ l.length ≤ 60) : false = validTot l := by unfold validTot; rw [decide_eq_false h]; rfl
theorem vt_bad {l : List VP} {k : Nat} (hk : k < l.length) (h : okT l k = false) : false = validTot l := by
  unfold validTot; symm; rw [Bool.and_eq_false_iff]; right
  rw [List.all_eq_false]; exact ⟨k, by simpa using hk, by simp [h]⟩
theorem vt_yes {l : List VP} {k : Nat} (h : l.length ≤ 60) (hk : ¬ k < l.length) (hall : ∀ i, i < k → okT l i = true) : true = validTot l := by
  unfold validTot; rw [decide_eq_true h, Bool.true_and]; symm; rw [List.all_eq_true]; intro i hi; exact hall i (by simp at hi; omega)
structure Tot (l : List VP) : Prop where
  len : l.length ≤ 60
  day : ∀ i, i < l.length → 0 ≤ (l.getD i zP).a ∧ (l.getD i zP).a ≤ 100000
  cnt : ∀ i, i < l.length → 0 ≤ (l.getD i zP).b ∧ (l.getD i zP).b ≤ 1000000000000
  up : ∀ i, i + 1 < l.length → (l.getD i zP).a < (l.getD (i + 1) zP).a ∧ (l.getD i zP).b ≤ (l.getD (i + 1) zP).b
theorem tot {l : List VP} (h : validTot l = true) : Tot l := by
  unfold validTot at h
  rw [Bool.and_eq_true, decide_eq_true_iff, List.all_eq_true] at h
  have hk : ∀ i, i < l.length → _ := fun i hi => of_decide_eq_true (h.2 i (by simpa using hi))
  exact ⟨h.1, fun i hi => ⟨(hk i hi).1, (hk i hi).2.1⟩, fun i hi => ⟨(hk i hi).2.2.1, (hk i hi).2.2.2.1⟩, fun i hi => by have := (hk (i + 1) hi).2.2.2.2 (by omega); simpa using this⟩
theorem Tot.lt {l : List VP} (h : Tot l) {i : Nat} : ∀ {j : Nat}, i < j → j < l.length → (l.getD i zP).a < (l.getD j zP).a ∧ (l.getD i zP).b ≤ (l.getD j zP).b
  | j + 1, hij, hj => by
    have h1 := h.up j hj
    rcases Nat.lt_or_ge i j with h2 | h2
    · have h3 := h.lt h2 (by omega)
      omega
    · rw [show i = j by omega]; exact h1
theorem ok_t {l : List VP} {i : Nat} (h1 : 0 ≤ (l.getD i zP).a ∧ (l.getD i zP).a ≤ 100000) (h2 : 0 ≤ (l.getD i zP).b ∧ (l.getD i zP).b ≤ 1000000000000) (h3 : 0 < i → (l.getD (i - 1) zP).a < (l.getD i zP).a ∧ (l.getD (i - 1) zP).b ≤ (l.getD i zP).b) : okT l i = true := by
  unfold okT; rw [decide_eq_true_iff]; exact ⟨h1.1, h1.2, h2.1, h2.2, h3⟩
theorem ok_f {l : List VP} {i : Nat} (h : ¬ (0 ≤ (l.getD i zP).a ∧ (l.getD i zP).a ≤ 100000) ∨ ¬ (0 ≤ (l.getD i zP).b ∧ (l.getD i zP).b ≤ 1000000000000) ∨ 0 < i ∧ ¬ ((l.getD (i - 1) zP).a < (l.getD i zP).a ∧ (l.getD (i - 1) zP).b ≤ (l.getD i zP).b)) : okT l i = false := by
  unfold okT; rw [decide_eq_false_iff_not]; rintro ⟨q1, q2, q3, q4, q5⟩
  rcases h with h | h | ⟨h, h'⟩
  · exact h ⟨q1, q2⟩
  · exact h ⟨q3, q4⟩
  · exact h' (q5 h)
/-! the count up to a day -/
def onI (l : List VP) (day : Int) : Nat := l.countP (fun p => decide (p.a ≤ day)) - 1
theorem on_at {l : List VP} (h : Tot l) {day : Int} {i : Nat} (hi : i < l.length) (h1 : (l.getD i zP).a ≤ day) (h2 : i + 1 < l.length → day < (l.getD (i + 1) zP).a) : onI l day = i := by
  have e : l = l.take (i + 1) ++ l.drop (i + 1) := (List.take_append_drop _ _).symm
  have c1 : (l.take (i + 1)).countP (fun p => decide (p.a ≤ day)) = i + 1 := by
    rw [show i + 1 = (l.take (i + 1)).length by simp; omega]
    rw [List.length_take, show min (i + 1) l.length = i + 1 by omega]
    rw [List.countP_eq_length.2]
    · simp; omega
    · intro x hx
      obtain ⟨j, hj, rfl⟩ := List.getElem_of_mem hx
      have hj' : j < i + 1 := by simp at hj; omega
      rw [decide_eq_true_iff, List.getElem_take]
      have e2 : l[j]'(by omega) = l.getD j zP := by simp [List.getD, show j < l.length by omega]
      rw [e2]
      rcases Nat.lt_or_ge j i with h3 | h3
      · have := (h.lt h3 hi).1; omega
      · rw [show j = i by omega]; exact h1
  have c2 : (l.drop (i + 1)).countP (fun p => decide (p.a ≤ day)) = 0 := by
    rw [List.countP_eq_zero]
    intro x hx
    obtain ⟨j, hj, rfl⟩ := List.getElem_of_mem hx
    have hj' : i + 1 + j < l.length := by simp at hj; omega
    rw [List.getElem_drop, decide_eq_true_iff]
    have e2 : l[i + 1 + j]'hj' = l.getD (i + 1 + j) zP := by simp [List.getD, hj']
    rw [e2]
    have h3 := h2 (by omega)
    rcases Nat.eq_zero_or_pos j with h4 | h4
    · rw [h4, Nat.add_zero]; omega
    · have := (h.lt (show i + 1 < i + 1 + j by omega) hj').1; omega
  unfold onI
  conv => lhs; rw [e]
  rw [List.countP_append, c1, c2]; omega
def onV (l : List VP) (day : Int) : Int :=
  if (l.getD (onI l day) zP).a = day then (l.getD (onI l day) zP).b
  else (l.getD (onI l day) zP).b + ((l.getD (onI l day + 1) zP).b - (l.getD (onI l day) zP).b) * (day - (l.getD (onI l day) zP).a) / ((l.getD (onI l day + 1) zP).a - (l.getD (onI l day) zP).a)
def Covers (l : List VP) (day : Int) : Prop := 0 < l.length ∧ (l.getD 0 zP).a ≤ day ∧ day ≤ (l.getD (l.length - 1) zP).a
theorem frac_bd {m d e : Int} (hm : 0 ≤ m) (hd : 0 ≤ d) (he : d ≤ e) (hp : 0 < e) : 0 ≤ m * d ∧ m * d ≤ m * e ∧ 0 ≤ m * d / e ∧ m * d / e ≤ m := by
  have h1 : 0 ≤ m * d := Int.mul_nonneg hm hd
  have h2 : m * d ≤ m * e := Int.mul_le_mul_of_nonneg_left he hm
  refine ⟨h1, h2, Int.ediv_nonneg h1 (by omega), ?_⟩
  have := Int.ediv_le_ediv hp h2
  rwa [Int.mul_ediv_cancel _ (by omega)] at this
/-- What an index that is found tells. -/
structure OnAt (l : List VP) (day : Int) (i : Nat) : Prop where
  lt : i < l.length
  le : (l.getD i zP).a ≤ day
  nx : i + 1 < l.length → day < (l.getD (i + 1) zP).a
theorem OnAt.idx {l : List VP} (h : Tot l) {day : Int} {i : Nat} (ho : OnAt l day i) : onI l day = i := on_at h ho.lt ho.le ho.nx
theorem OnAt.more {l : List VP} {day : Int} {i : Nat} (h : Tot l) (ho : OnAt l day i) (hl : day ≤ (l.getD (l.length - 1) zP).a) (hne : (l.getD i zP).a ≠ day) : i + 1 < l.length := by
  have h1 := ho.lt
  have h2 := ho.le
  rcases Nat.lt_or_ge (i + 1) l.length with h3 | h3
  · exact h3
  · rw [show l.length - 1 = i by omega] at hl; omega
theorem OnAt.bd {l : List VP} {day : Int} {i : Nat} (h : Tot l) (ho : OnAt l day i) (hi : i + 1 < l.length) :
    0 ≤ ((l.getD (i + 1) zP).b - (l.getD i zP).b) * (day - (l.getD i zP).a) ∧ ((l.getD (i + 1) zP).b - (l.getD i zP).b) * (day - (l.getD i zP).a) ≤ 100000000000000000
    ∧ 0 ≤ ((l.getD (i + 1) zP).b - (l.getD i zP).b) * (day - (l.getD i zP).a) / ((l.getD (i + 1) zP).a - (l.getD i zP).a)
    ∧ ((l.getD (i + 1) zP).b - (l.getD i zP).b) * (day - (l.getD i zP).a) / ((l.getD (i + 1) zP).a - (l.getD i zP).a) ≤ (l.getD (i + 1) zP).b - (l.getD i zP).b
    ∧ 0 < (l.getD (i + 1) zP).a - (l.getD i zP).a := by
  have h1 := h.up i hi
  have h2 := ho.le
  have h3 := ho.nx hi
  have h4 := h.cnt i (by omega)
  have h5 := h.cnt (i + 1) hi
  have h6 := h.day i (by omega)
  have h7 := h.day (i + 1) hi
  have hf := frac_bd (m := (l.getD (i + 1) zP).b - (l.getD i zP).b) (d := day - (l.getD i zP).a) (e := (l.getD (i + 1) zP).a - (l.getD i zP).a) (by omega) (by omega) (by omega) (by omega)
  have hx : ((l.getD (i + 1) zP).b - (l.getD i zP).b) * ((l.getD (i + 1) zP).a - (l.getD i zP).a) ≤ 1000000000000 * 100000 := Int.mul_le_mul (by omega) (by omega) (by omega) (by omega)
  exact ⟨hf.1, by omega, hf.2.2.1, hf.2.2.2, by omega⟩
theorem onV_eq {l : List VP} (h : Tot l) {day : Int} {i : Nat} (ho : OnAt l day i) (he : (l.getD i zP).a = day) : onV l day = (l.getD i zP).b := by
  unfold onV; rw [ho.idx h, if_pos he]
theorem onV_ne {l : List VP} (h : Tot l) {day : Int} {i : Nat} (ho : OnAt l day i) (he : ¬ (l.getD i zP).a = day) : onV l day = (l.getD i zP).b + ((l.getD (i + 1) zP).b - (l.getD i zP).b) * (day - (l.getD i zP).a) / ((l.getD (i + 1) zP).a - (l.getD i zP).a) := by
  unfold onV; rw [ho.idx h, if_neg he]
theorem on_ex {l : List VP} {day : Int} (hc : Covers l day) : ∃ i, OnAt l day i := by
  obtain ⟨h0, h1, h2⟩ := hc
  have key : ∀ j, j < l.length → (∃ i, OnAt l day i) ∨ (l.getD j zP).a ≤ day := by
    intro j
    induction j with
    | zero => intro _; exact .inr h1
    | succ j ih =>
      intro hj
      rcases ih (by omega) with h | h
      · exact .inl h
      · rcases Int.lt_or_le day (l.getD (j + 1) zP).a with h3 | h3
        · exact .inl ⟨j, by omega, h, fun _ => h3⟩
        · exact .inr h3
  rcases key (l.length - 1) (by omega) with h | h
  · exact h
  · exact ⟨l.length - 1, by omega, h, fun h => by omega⟩
theorem onV_bd {l : List VP} (h : Tot l) {day : Int} (hc : Covers l day) : 0 ≤ onV l day ∧ onV l day ≤ 1000000000000 := by
  obtain ⟨i, ho⟩ := on_ex hc
  have h4 := h.cnt i ho.lt
  by_cases he : (l.getD i zP).a = day
  · rw [onV_eq h ho he]; exact h4
  · have hi := ho.more h hc.2.2 he
    have hb := ho.bd h hi
    have h5 := h.cnt (i + 1) hi
    rw [onV_ne h ho he]; omega
/-! lists of totals -/
structure VS where
  A : Option Addr
  c : Nat
  xs : List VP
def encS (r : VS) : List Value := [.slice r.A r.xs.length r.c]
theorem encS_len : ∀ r, (encS r).length = 1 := fun _ => rfl
def zS : VS := ⟨none, 0, []⟩
def firstD (L : List VS) : Nat → Int
  | 0 => 0
  | k + 1 => max (firstD L k) (((L.getD k zS).xs).getD 0 zP).a
def lastD (L : List VS) : Nat → Int
  | 0 => 100000
  | k + 1 => min (lastD L k) (((L.getD k zS).xs).getD ((L.getD k zS).xs.length - 1) zP).a
def emptyAt (L : List VS) (i : Nat) : Bool := decide ((L.getD i zS).xs.length = 0)
def anyE (L : List VS) : Bool := (List.range L.length).any (emptyAt L)
theorem ae_t {L : List VS} {k : Nat} (hk : k < L.length) (h : (L.getD k zS).xs.length = 0) : anyE L = true := by
  unfold anyE; rw [List.any_eq_true]; exact ⟨k, by simpa using hk, by unfold emptyAt; exact decide_eq_true h⟩
theorem ae_f {L : List VS} {k : Nat} (hk : ¬ k < L.length) (h : ∀ i, i < k → (L.getD i zS).xs.length ≠ 0) : anyE L = false := by
  unfold anyE; rw [List.any_eq_false]; intro i hi; unfold emptyAt; simpa using h i (by simp at hi; omega)
theorem ae_all {L : List VS} (h : anyE L = false) : ∀ i, i < L.length → (L.getD i zS).xs.length ≠ 0 := fun i hi => by
  unfold anyE at h; rw [List.any_eq_false] at h
  have := h i (by simpa using hi)
  unfold emptyAt at this; simpa using this
theorem firstD_ge {L : List VS} : ∀ {k i : Nat}, i < k → (((L.getD i zS).xs).getD 0 zP).a ≤ firstD L k
  | k + 1, i, h => by
    rw [firstD]
    rcases Nat.lt_or_ge i k with h1 | h1
    · have := firstD_ge (L := L) h1; omega
    · rw [show i = k by omega]; omega
theorem lastD_le {L : List VS} : ∀ {k i : Nat}, i < k → lastD L k ≤ (((L.getD i zS).xs).getD ((L.getD i zS).xs.length - 1) zP).a
  | k + 1, i, h => by
    rw [lastD]
    rcases Nat.lt_or_ge i k with h1 | h1
    · have := lastD_le (L := L) h1; omega
    · rw [show i = k by omega]; omega
theorem firstD_0 {L : List VS} : ∀ k, 0 ≤ firstD L k
  | 0 => by simp [firstD]
  | k + 1 => by have := firstD_0 (L := L) k; rw [firstD]; omega
theorem lastD_0 {L : List VS} : ∀ k, lastD L k ≤ 100000
  | 0 => by simp [lastD]
  | k + 1 => by have := lastD_0 (L := L) k; rw [lastD]; omega
theorem firstD_hi {L : List VS} (hT : ∀ k, k < L.length → Tot (L.getD k zS).xs) (hall : ∀ i, i < L.length → (L.getD i zS).xs.length ≠ 0) : firstD L L.length ≤ 100000 := by
  have key : ∀ k, k ≤ L.length → firstD L k ≤ 100000 := by
    intro k
    induction k with
    | zero => intro _; simp [firstD]
    | succ k ih =>
      intro hk
      have h1 := ih (by omega)
      have h2 := (hT k (by omega)).day 0 (by have := hall k (by omega); omega)
      rw [firstD]; omega
  exact key _ (Nat.le_refl _)
theorem lastD_lo {L : List VS} (hT : ∀ k, k < L.length → Tot (L.getD k zS).xs) (hall : ∀ i, i < L.length → (L.getD i zS).xs.length ≠ 0) : 0 ≤ lastD L L.length := by
  have key : ∀ k, k ≤ L.length → 0 ≤ lastD L k := by
    intro k
    induction k with
    | zero => intro _; simp [lastD]
    | succ k ih =>
      intro hk
      have h1 := ih (by omega)
      have h2 := (hT k (by omega)).day ((L.getD k zS).xs.length - 1) (by have := hall k (by omega); omega)
      rw [lastD]; omega
  exact key _ (Nat.le_refl _)
def comI (L : List VS) : Int × Int := if anyE L = true then (0, -1) else (firstD L L.length, lastD L L.length)
def comV (L : List VS) : Int × Int × Int :=
  if anyE L = true then (0, 0, 6) else if lastD L L.length < firstD L L.length then (0, 0, 6)
  else if 400 < lastD L L.length - firstD L L.length + 1 then (0, 0, 3) else (firstD L L.length, lastD L L.length, 0)
theorem ci_t {L : List VS} (h : anyE L = true) : comI L = (0, -1) := by unfold comI; rw [if_pos h]
theorem ci_f {L : List VS} (h : anyE L = false) : comI L = (firstD L L.length, lastD L L.length) := by unfold comI; rw [if_neg (by rw [h]; decide)]
theorem cv_e {L : List VS} (h : anyE L = true) : comV L = (0, 0, 6) := by unfold comV; rw [if_pos h]
theorem cv_n {L : List VS} (h : anyE L = false) (h1 : lastD L L.length < firstD L L.length) : comV L = (0, 0, 6) := by unfold comV; rw [if_neg (by rw [h]; decide), if_pos h1]
theorem cv_l {L : List VS} (h : anyE L = false) (h1 : ¬ lastD L L.length < firstD L L.length) (h2 : 400 < lastD L L.length - firstD L L.length + 1) : comV L = (0, 0, 3) := by
  unfold comV; rw [if_neg (by rw [h]; decide), if_neg h1, if_pos h2]
theorem cv_o {L : List VS} (h : anyE L = false) (h1 : ¬ lastD L L.length < firstD L L.length) (h2 : ¬ 400 < lastD L L.length - firstD L L.length + 1) : comV L = (firstD L L.length, lastD L L.length, 0) := by
  unfold comV; rw [if_neg (by rw [h]; decide), if_neg h1, if_neg h2]
end Go.W

/- strconv.ParseUint at base ten and seven bits, whatever the string: the number, or an error that is not nil. Turned by a program out of the proof at eight bits. -/
namespace Go.U7
open Go Go.Proofs Go.Shelf Go.RowKit
variable {P : Program} {ρ : Ren}
set_option maxHeartbeats 32000000 in
set_option maxRecDepth 100000 in
theorem u7_inner (L : LaysPu.n16 P ρ) (t : ByteArray) (hne : t.size ≠ 0) (hmax : t.size ≤ 9223372036854775806) (w : World) :
    Calls P (ρ.f 16) #[.string t, .int .i64 10, .int .i64 7] w fun e w' => e = .returned (Lib.uintTupleM (ρ.t 34) 127 (Lib.parseUintM 127 0 t.data.toList)) ∧ w' = Lib.bytesWorld w (ρ.t 5) t := by
  have mixed := L.mixed
  have t9 := L.t9; have a9 := L.a9; have z9 := L.z9; have v9 := L.v9
  have t3 := L.t3; have a3 := L.a3; have z3 := L.z3; have v3 := L.v3
  have t22 := L.t22; have a22 := L.a22; have z22 := L.z22; have v22 := L.v22
  have t24 := L.t24; have a24 := L.a24; have z24 := L.z24; have v24 := L.v24
  have t4 := L.t4; have a4 := L.a4; have z4 := L.z4; have v4 := L.v4
  have t34 := L.t34; have a34 := L.a34; have z34 := L.z34; have v34 := L.v34
  have t5 := L.t5; have a5 := L.a5; have z5 := L.z5; have v5 := L.v5
  have t36 := L.t36; have a36 := L.a36; have z36 := L.z36; have v36 := L.v36
  have t37 := L.t37; have a37 := L.a37; have z37 := L.z37; have v37 := L.v37
  have t0 := L.t0; have a0 := L.a0; have z0 := L.z0; have v0 := L.v0
  have e19 : ∀ args w, (callFunc (ρ.f 19) args).run P w = .ok (.enter (ρ.f 19) args) w := enters_of L.f19 (by kernel_rfl) rfl
  have hemp : t.toList.isEmpty = false := by
    rw [← decide_eq_emptyBytes]
    exact decide_eq_false (fun h => hne (by rw [h]; rfl))
  have hcv := Lib.run_convert_string_bytes (P := P) w (ρ.t 9) (ρ.t 37) (ρ.t 5) t (u := .string) L.t9 L.t37 L.t5
  have hB : ∀ j, j < t.size → (Lib.bytesWorld w (ρ.t 5) t).cell? ⟨w.heap.size, j, none⟩ = some (.int .u8 (t.data.toList.getD j 0).toNat) := fun j hj => Lib.bytesWorld_cell w (ρ.t 5) t j hj
  obtain ⟨W1, hW1⟩ : ∃ W1, W1 = Lib.bytesWorld w (ρ.t 5) t := ⟨_, rfl⟩
  rw [← hW1] at hcv hB ⊢
  clear hW1
  obtain ⟨bs, hL⟩ : ∃ bs, bs = t.data.toList := ⟨_, rfl⟩
  have hLn : bs.length = t.size := by rw [hL, Lib.size_eq]
  rw [← hL] at hB ⊢
  clear hL
  have hmv : IntKind.u64.wrap (IntKind.u64.wrap 128 - 1) = 127 := by
    rw [IntKind.wrap_u64, IntKind.wrap_u64]
    decide
  go_enter L.f16, BodyPu.n16_ntmps ρ
  go_wp2
  go_loop [12, 13, 101] (fun vu vn vi => ∃ (k acc : Nat) (a : Int), vu = .bool false ∧ vn = .int .u64 a ∧ vi = .int .i64 k ∧ k ≤ t.size ∧ Hid (a = (acc : Int) ∧ acc ≤ 127 ∧ Lib.parseUintM 127 0 bs = Lib.parseUintM 127 acc (bs.drop k)))
    (fun _ _ vi => t.size - (intOf vi).toNat)
  case atStart => exact ⟨0, 0, 0, rfl, rfl, rfl, by omega, rfl, by omega, rfl⟩
  case round =>
    obtain ⟨k, acc, a, rfl, rfl, rfl, hk, hh⟩ := hrel
    obtain ⟨ha, hacc, hdec⟩ := hh.out
    clear hh
    have a0 : 0 ≤ a := by omega
    have a1 : a ≤ 127 := by omega
    by_cases hkn : k < t.size
    · have hc := hB k hkn
      have hdrop : bs.drop k = bs[k]'(by omega) :: bs.drop (k + 1) := List.drop_eq_getElem_cons (by omega)
      have hget : bs.getD k 0 = bs[k]'(by omega) := by simp [List.getD, List.getElem?_eq_getElem (show k < bs.length by omega)]
      rw [hdrop] at hdec
      rw [hget] at hc
      generalize bs[k]'(by omega) = c at hc hdec
      have hc256 : c.toNat < 256 := c.toNat_lt
      clear hB hdrop hget
      by_cases hdig : 48 ≤ c.toNat ∧ c.toNat ≤ 57
      · obtain ⟨hd0, hd1⟩ := hdig
        have hcut : ¬ 1844674407370955162 ≤ acc := by omega
        by_cases hov : 127 < acc * 10 + (c.toNat - 48)
        ·
          have hF : Lib.parseUintM 127 acc (c :: bs.drop (k + 1)) = .range := by simp [Lib.parseUintM, hd0, hd1, hcut, hov]
          rw [hF] at hdec
          have iov : 127 < a * 10 + ((c.toNat : Int) - 48) := by omega
          clear hcut hacc hF hov ha
          go_wp2
          go_ret2
          exact ⟨rfl, rfl⟩
        · have hF : Lib.parseUintM 127 acc (c :: bs.drop (k + 1)) = Lib.parseUintM 127 (acc * 10 + (c.toNat - 48)) (bs.drop (k + 1)) := by simp [Lib.parseUintM, hd0, hd1, hcut, hov]
          have HN : Hid (a * 10 + ((c.toNat : Int) - 48) = ((acc * 10 + (c.toNat - 48) : Nat) : Int) ∧ acc * 10 + (c.toNat - 48) ≤ 127 ∧ Lib.parseUintM 127 0 bs = Lib.parseUintM 127 (acc * 10 + (c.toNat - 48)) (bs.drop (k + 1))) := Lib.hid ⟨by omega, by omega, hdec.trans hF⟩
          have iov : a * 10 + ((c.toNat : Int) - 48) ≤ 127 := by omega
          clear hcut hacc hF hov hdec ha
          go_wp2
          refine ⟨⟨k + 1, acc * 10 + (c.toNat - 48), a * 10 + ((c.toNat : Int) - 48), rfl, (by first | rfl | (congr 1; omega)), (by first | rfl | (congr 1; omega)), by omega, HN⟩, by simp [intOf]; omega⟩
      ·
        have hF : Lib.parseUintM 127 acc (c :: bs.drop (k + 1)) = Lib.parseUintB 7 [] := by simp [Lib.parseUintM, Lib.parseUintB, hdig]
        rw [hF] at hdec
        clear hacc hF ha
        have hv0 := bits_lo_u8 .or (c.toNat : Int) 32
        have hv1 := bits_hi_u8 .or (c.toNat : Int) 32
        have hu0 := bits_lo_u8 .or 95 32
        have hu1 := bits_hi_u8 .or 95 32
        go_wp2_with (go_at_fn (ρ.f 19); refine (AnyPu.internal_strconv_lower { L with } _ _).mono ?_; rintro e w' ⟨rfl, rfl⟩)
        all_goals go_ret2
        all_goals first | exact ⟨rfl, rfl⟩ | exact ⟨by rw [hdec]; rfl, rfl⟩
    ·
      have hkk : k = t.size := by omega
      subst hkk
      have hF : Lib.parseUintM 127 acc (bs.drop t.size) = .ok acc := by rw [List.drop_eq_nil_of_le (by omega)]; rfl
      rw [hF] at hdec
      subst ha
      clear hacc hF a0 a1
      go_wp2
      go_ret2
      exact ⟨rfl, rfl⟩

theorem u7_at (L : LaysPu.n16 P ρ) (t : ByteArray) (hmax : t.size ≤ 9223372036854775806) (w : World) :
    Calls P (ρ.f 16) #[.string t, .int .i64 10, .int .i64 7] w fun e w' => e = .returned (Lib.uintTupleM (ρ.t 34) 127 (Lib.parseUintB 7 t.data.toList)) ∧ (w' = w ∨ w' = Lib.bytesWorld w (ρ.t 5) t) := by
  have eM : (2 : Nat) ^ 7 - 1 = 127 := by decide
  by_cases h0 : t.size = 0
  · have ht : t = ⟨#[]⟩ := by
      apply ByteArray.ext
      exact Array.eq_empty_of_size_eq_zero h0
    subst ht
    exact (AnyPu.internal_strconv_ParseUint_empty { L with } 10 7 w).mono fun e w' ⟨he, hw⟩ => ⟨he, Or.inl hw⟩
  · have hne : t.data.toList ≠ [] := fun h => h0 (by rw [Lib.size_eq, h]; rfl)
    refine (u7_inner { L with } t h0 hmax w).mono fun e w' ⟨he, hw⟩ => ⟨?_, Or.inr hw⟩
    rw [he, Lib.parseUintB, if_neg hne, eM]

set_option maxHeartbeats 4000000 in
set_option maxRecDepth 100000 in
theorem u7_ok (L : LaysPu.n14 P ρ) (s : ByteArray) (hmax : s.size ≤ 9223372036854775806) (u : Nat) (h : Lib.parseUintB 7 s.data.toList = .ok u) (w : World) :
    Calls P (ρ.f 14) #[.string s, .int .i64 10, .int .i64 7] w fun e w' => e = .returned (.tuple #[.int .u64 u, .nilIface]) ∧ (w' = w ∨ w' = Lib.bytesWorld w (ρ.t 5) s) := by
  have mixed := L.mixed
  have t9 := L.t9; have a9 := L.a9; have z9 := L.z9; have v9 := L.v9
  have t3 := L.t3; have a3 := L.a3; have z3 := L.z3; have v3 := L.v3
  have t22 := L.t22; have a22 := L.a22; have z22 := L.z22; have v22 := L.v22
  have t24 := L.t24; have a24 := L.a24; have z24 := L.z24; have v24 := L.v24
  have t25 := L.t25; have a25 := L.a25; have z25 := L.z25; have v25 := L.v25
  have t4 := L.t4; have a4 := L.a4; have z4 := L.z4; have v4 := L.v4
  have e16 : ∀ args w, (callFunc (ρ.f 16) args).run P w = .ok (.enter (ρ.f 16) args) w := enters_of L.f16 (by kernel_rfl) rfl
  have hI := u7_at { L with } s hmax w
  rw [h] at hI
  have hI : Calls P (ρ.f 16) #[.string s, .int .i64 10, .int .i64 7] w fun e w' => e = .returned (.tuple #[.int .u64 u, .nilIface]) ∧ (w' = w ∨ w' = Lib.bytesWorld w (ρ.t 5) s) := hI
  clear h
  go_enter L.f14, BodyPu.n14_ntmps ρ
  go_wp2_with (go_at_fn (ρ.f 16); refine hI.mono ?_; rintro e W1 ⟨rfl, hW⟩)
  go_wp2
  go_ret2
  exact ⟨rfl, hW⟩
set_option maxHeartbeats 4000000 in
set_option maxRecDepth 100000 in
theorem u7_syn (L : LaysPu.n14 P ρ) (s : ByteArray) (hlim : s.size ≤ 281474976710656) (h : Lib.parseUintB 7 s.data.toList = Lib.parseUintB 7 []) (ev : Value) (w : World) (hv : w.cell? ⟨(ρ.g 0), 0, none⟩ = some ev) (hev : ev = .nilIface ∨ ∃ te pe, ev = .iface te pe) :
    Calls P (ρ.f 14) #[.string s, .int .i64 10, .int .i64 7] w fun e w' => ∃ N, e = .returned (.tuple #[.int .u64 0, .iface (ρ.t 39) (.pointer (some ⟨N, 0, none⟩))]) ∧ w.heap.size ≤ N ∧ w'.heap[N]? = some (.cells #[.string ⟨#[80, 97, 114, 115, 101, 85, 105, 110, 116]⟩, .string s, ev] (ρ.t 44) (0, 0)) ∧ Below w.heap.size w w' := by
  have mixed := L.mixed
  have t9 := L.t9; have a9 := L.a9; have z9 := L.z9; have v9 := L.v9
  have t3 := L.t3; have a3 := L.a3; have z3 := L.z3; have v3 := L.v3
  have t22 := L.t22; have a22 := L.a22; have z22 := L.z22; have v22 := L.v22
  have t24 := L.t24; have a24 := L.a24; have z24 := L.z24; have v24 := L.v24
  have t25 := L.t25; have a25 := L.a25; have z25 := L.z25; have v25 := L.v25
  have t4 := L.t4; have a4 := L.a4; have z4 := L.z4; have v4 := L.v4
  have e16 : ∀ args w, (callFunc (ρ.f 16) args).run P w = .ok (.enter (ρ.f 16) args) w := enters_of L.f16 (by kernel_rfl) rfl
  have e17 : ∀ args w, (callFunc (ρ.f 17) args).run P w = .ok (.enter (ρ.f 17) args) w := enters_of L.f17 (by kernel_rfl) rfl
  have hG : (ρ.g 0) < w.heap.size := Lib.lt_of_cell hv
  have hI := u7_at { L with } s (by omega) w
  rw [h] at hI
  have hI : Calls P (ρ.f 16) #[.string s, .int .i64 10, .int .i64 7] w fun e w' => e = .returned (.tuple #[.int .u64 0, .iface (ρ.t 34) (.int .i64 2)]) ∧ (w' = w ∨ w' = Lib.bytesWorld w (ρ.t 5) s) := hI
  clear h
  go_enter L.f14, BodyPu.n14_ntmps ρ
  go_wp2_with (go_at_fn (ρ.f 16); refine hI.mono ?_)
  rintro e W1 ⟨rfl, hW⟩
  have hb1 : Below w.heap.size w W1 := by
    rcases hW with rfl | rfl
    · exact Below.refl _ _
    · exact Lib.bytesWorld_below _ _ _
  have hv1 : W1.cell? ⟨(ρ.g 0), 0, none⟩ = some ev := (hb1.cell (show (⟨(ρ.g 0), 0, none⟩ : Addr).block < w.heap.size from hG)).trans hv
  clear hW
  go_wp2_with (go_at_fn (ρ.f 17); refine (AnyPu.strconv_toError_syntax { L with } ⟨#[80, 97, 114, 115, 101, 85, 105, 110, 116]⟩ s 10 7 ev _ hlim ?_ hev).mono ?_)
  · exact hv1
  rintro e W2 ⟨N, rfl, h1, h2, h3⟩
  go_wp2
  go_ret2
  exact ⟨N, rfl, Nat.le_trans hb1.size h1, h2, hb1.trans (h3.mono hb1.size)⟩
set_option maxHeartbeats 4000000 in
set_option maxRecDepth 100000 in
theorem u7_rng (L : LaysPu.n14 P ρ) (s : ByteArray) (hlim : s.size ≤ 281474976710656) (h : Lib.parseUintB 7 s.data.toList = .range) (ev : Value) (w : World) (hv : w.cell? ⟨(ρ.g 1), 0, none⟩ = some ev) (hev : ev = .nilIface ∨ ∃ te pe, ev = .iface te pe) :
    Calls P (ρ.f 14) #[.string s, .int .i64 10, .int .i64 7] w fun e w' => ∃ N, e = .returned (.tuple #[.int .u64 127, .iface (ρ.t 39) (.pointer (some ⟨N, 0, none⟩))]) ∧ w.heap.size ≤ N ∧ w'.heap[N]? = some (.cells #[.string ⟨#[80, 97, 114, 115, 101, 85, 105, 110, 116]⟩, .string s, ev] (ρ.t 44) (0, 0)) ∧ Below w.heap.size w w' := by
  have mixed := L.mixed
  have t9 := L.t9; have a9 := L.a9; have z9 := L.z9; have v9 := L.v9
  have t3 := L.t3; have a3 := L.a3; have z3 := L.z3; have v3 := L.v3
  have t22 := L.t22; have a22 := L.a22; have z22 := L.z22; have v22 := L.v22
  have t24 := L.t24; have a24 := L.a24; have z24 := L.z24; have v24 := L.v24
  have t25 := L.t25; have a25 := L.a25; have z25 := L.z25; have v25 := L.v25
  have t4 := L.t4; have a4 := L.a4; have z4 := L.z4; have v4 := L.v4
  have e16 : ∀ args w, (callFunc (ρ.f 16) args).run P w = .ok (.enter (ρ.f 16) args) w := enters_of L.f16 (by kernel_rfl) rfl
  have e17 : ∀ args w, (callFunc (ρ.f 17) args).run P w = .ok (.enter (ρ.f 17) args) w := enters_of L.f17 (by kernel_rfl) rfl
  have hG : (ρ.g 1) < w.heap.size := Lib.lt_of_cell hv
  have hI := u7_at { L with } s (by omega) w
  rw [h] at hI
  have hI : Calls P (ρ.f 16) #[.string s, .int .i64 10, .int .i64 7] w fun e w' => e = .returned (.tuple #[.int .u64 127, .iface (ρ.t 34) (.int .i64 1)]) ∧ (w' = w ∨ w' = Lib.bytesWorld w (ρ.t 5) s) := hI
  clear h
  go_enter L.f14, BodyPu.n14_ntmps ρ
  go_wp2_with (go_at_fn (ρ.f 16); refine hI.mono ?_)
  rintro e W1 ⟨rfl, hW⟩
  have hb1 : Below w.heap.size w W1 := by
    rcases hW with rfl | rfl
    · exact Below.refl _ _
    · exact Lib.bytesWorld_below _ _ _
  have hv1 : W1.cell? ⟨(ρ.g 1), 0, none⟩ = some ev := (hb1.cell (show (⟨(ρ.g 1), 0, none⟩ : Addr).block < w.heap.size from hG)).trans hv
  clear hW
  go_wp2_with (go_at_fn (ρ.f 17); refine (AnyPu.strconv_toError_range { L with } ⟨#[80, 97, 114, 115, 101, 85, 105, 110, 116]⟩ s 10 7 ev _ hlim ?_ hev).mono ?_)
  · exact hv1
  rintro e W2 ⟨N, rfl, h1, h2, h3⟩
  go_wp2
  go_ret2
  exact ⟨N, rfl, Nat.le_trans hb1.size h1, h2, hb1.trans (h3.mono hb1.size)⟩

end Go.U7

/- How many digits are marked; counts of values in photos. -/
set_option linter.unusedVariables false
set_option linter.unusedSimpArgs false
namespace Go.W
open Go Go.Sx
/-! how many bits a number has -/
def popK (x k : Nat) : Nat := ((List.range k).filter fun i => x.testBit i).length
theorem popK_0 (x : Nat) : popK x 0 = 0 := rfl
theorem popK_succ (x k : Nat) : popK x (k + 1) = popK x k + x / 2 ^ k % 2 := by
  unfold popK
  rw [List.range_succ, List.filter_append, List.length_append]
  congr 1
  rw [List.filter_cons, Nat.testBit_eq_decide_div_mod_eq]
  have h := Nat.mod_lt (x / 2 ^ k) (show 0 < 2 by omega)
  by_cases h1 : x / 2 ^ k % 2 = 1
  · simp [h1]
  · simp [h1]; omega
theorem popK_le (x : Nat) : ∀ k, popK x k ≤ k
  | 0 => Nat.le_refl _
  | k + 1 => by rw [popK_succ]; have := popK_le x k; have := Nat.mod_lt (x / 2 ^ k) (show 0 < 2 by omega); omega
theorem popK_hi {x k : Nat} (h : x / 2 ^ k = 0) : ∀ j, popK x (k + j) = popK x k
  | 0 => rfl
  | j + 1 => by
    rw [← Nat.add_assoc, popK_succ, popK_hi h j]
    have : x / 2 ^ (k + j) = 0 := by rw [Nat.pow_add, ← Nat.div_div_eq_div_mul, h, Nat.zero_div]
    rw [this]; rfl
def popN : Nat → Nat → Nat
  | 0, _ => 0
  | f + 1, x => x % 2 + popN f (x / 2)
theorem popN_K : ∀ f x, popN f x = popK x f
  | 0, _ => rfl
  | f + 1, x => by
    rw [popN, popN_K f (x / 2)]
    unfold popK
    rw [List.range_succ_eq_map, List.filter_cons, List.filter_map, Nat.testBit_zero]
    have e : ((fun i => x.testBit i) ∘ Nat.succ) = fun i => (x / 2).testBit i := funext fun i => Nat.testBit_succ x i
    rw [e]
    have h := Nat.mod_lt x (show 0 < 2 by omega)
    by_cases h1 : x % 2 = 1
    · simp [h1]; omega
    · simp [h1]; omega
theorem popN_byte (f x : Nat) : popN (f + 8) x = popN 8 (x % 256) + popN f (x / 256) := by
  simp only [popN]
  have e : x / 2 / 2 / 2 / 2 / 2 / 2 / 2 / 2 = x / 256 := by omega
  rw [e]; omega
/-! the steps of OnesCount64, a byte at a time -/
def rep (m : Nat) : Nat → Nat
  | 0 => 0
  | n + 1 => m + 256 * rep m n
theorem and_split {a b m M : Nat} (ha : a < 256) (hm : m < 256) : (a + 256 * b) &&& (m + 256 * M) = (a &&& m) + 256 * (b &&& M) := by
  have h1 := Nat.and_mod_two_pow (a := a + 256 * b) (b := m + 256 * M) (n := 8)
  have h2 := Nat.and_div_two_pow (a := a + 256 * b) (b := m + 256 * M) (n := 8)
  rw [show (2 : Nat) ^ 8 = 256 from rfl] at h1 h2
  rw [show (a + 256 * b) % 256 = a by omega, show (m + 256 * M) % 256 = m by omega] at h1
  rw [show (a + 256 * b) / 256 = b by omega, show (m + 256 * M) / 256 = M by omega] at h2
  have h3 := Nat.mod_add_div ((a + 256 * b) &&& (m + 256 * M)) 256
  rw [h1, h2] at h3
  exact h3.symm
def po1 (n x : Nat) : Nat := (x / 2 &&& rep 85 n) + (x &&& rep 85 n)
def po2 (n x : Nat) : Nat := (x / 4 &&& rep 51 n) + (x &&& rep 51 n)
def po3 (n x : Nat) : Nat := (x / 16 + x) &&& rep 15 n
def pt1 (a : Nat) : Nat := (a / 2 &&& 85) + (a &&& 85)
def pt2 (a : Nat) : Nat := (a / 4 &&& 51) + (a &&& 51)
def pt3 (a : Nat) : Nat := (a / 16 + a) &&& 15
theorem m1_ok : ∀ a : Fin 256, ∀ c : Fin 2, (a.val / 2 + 128 * c.val) &&& 85 = a.val / 2 &&& 85 := by decide +kernel
theorem m2_ok : ∀ a : Fin 256, ∀ c : Fin 4, (a.val / 4 + 64 * c.val) &&& 51 = a.val / 4 &&& 51 := by decide +kernel
theorem m3_ok : ∀ a : Fin 256, ∀ c : Fin 16, (a.val / 16 + a.val + 16 * c.val) % 256 &&& 15 = (a.val / 16 + a.val) &&& 15 := by decide +kernel
theorem pt_ok : ∀ a : Fin 256, pt1 a.val < 256 ∧ pt2 a.val < 256 ∧ pt2 a.val % 16 ≤ 6 := by decide +kernel
theorem pt12_ok : ∀ a : Fin 256, pt2 (pt1 a.val) ≤ 68 ∧ pt3 (pt2 (pt1 a.val)) = popN 8 a.val ∧ popN 8 a.val ≤ 8 := by decide +kernel
theorem po1_split {n a b : Nat} (ha : a < 256) : po1 (n + 1) (a + 256 * b) = pt1 a + 256 * po1 n b := by
  unfold po1 pt1
  rw [show (a + 256 * b) / 2 = (a / 2 + 128 * (b % 2)) + 256 * (b / 2) by omega]
  simp only [rep]
  have h := m1_ok ⟨a, ha⟩ ⟨b % 2, by omega⟩
  simp only at h
  rw [and_split (by omega) (by omega), and_split ha (by omega), h]
  omega
theorem po2_split {n a b : Nat} (ha : a < 256) : po2 (n + 1) (a + 256 * b) = pt2 a + 256 * po2 n b := by
  unfold po2 pt2
  rw [show (a + 256 * b) / 4 = (a / 4 + 64 * (b % 4)) + 256 * (b / 4) by omega]
  simp only [rep]
  have h := m2_ok ⟨a, ha⟩ ⟨b % 4, by omega⟩
  simp only at h
  rw [and_split (by omega) (by omega), and_split ha (by omega), h]
  omega
theorem po3_split {n a b : Nat} (ha : a ≤ 68) (hb : b % 16 ≤ 6) : po3 (n + 1) (a + 256 * b) = pt3 a + 256 * po3 n b := by
  unfold po3 pt3
  rw [show (a + 256 * b) / 16 + (a + 256 * b) = (a / 16 + a + 16 * (b % 16)) + 256 * (b / 16 + b) by omega]
  simp only [rep]
  have h := m3_ok ⟨a, by omega⟩ ⟨b % 16, by omega⟩
  simp only at h
  rw [Nat.mod_eq_of_lt (by omega)] at h
  rw [and_split (by omega) (by omega), h]
theorem po_zero (x : Nat) : po1 0 x = 0 ∧ po2 0 x = 0 ∧ po3 0 x = 0 := by simp [po1, po2, po3, rep]
theorem po2_lo : ∀ n x, po2 n x % 16 ≤ 6
  | 0, x => by rw [(po_zero x).2.1]; omega
  | n + 1, x => by
    have e : x = x % 256 + 256 * (x / 256) := by omega
    rw [e, po2_split (by omega)]
    have := (pt_ok ⟨x % 256, by omega⟩).2.2
    simp only at this
    omega
theorem po_step (n x : Nat) : po3 (n + 1) (po2 (n + 1) (po1 (n + 1) x)) = popN 8 (x % 256) + 256 * po3 n (po2 n (po1 n (x / 256))) := by
  have e : x = x % 256 + 256 * (x / 256) := by omega
  have h := pt12_ok ⟨x % 256, by omega⟩
  have h2 := pt_ok ⟨x % 256, by omega⟩
  simp only at h h2
  conv => lhs; rw [e, po1_split (by omega), po2_split h2.1, po3_split h.1 (po2_lo _ _)]
  rw [h.2.1]
theorem sums8 {c0 c1 c2 c3 c4 c5 c6 c7 : Nat} (h0 : c0 ≤ 8) (h1 : c1 ≤ 8) (h2 : c2 ≤ 8) (h3 : c3 ≤ 8) (h4 : c4 ≤ 8) (h5 : c5 ≤ 8) (h6 : c6 ≤ 8) (h7 : c7 ≤ 8) : (let y := c0 + 256 * (c1 + 256 * (c2 + 256 * (c3 + 256 * (c4 + 256 * (c5 + 256 * (c6 + 256 * (c7 + 256 * 0))))))); let y1 := y + y / 2 ^ 8; let y2 := y1 + y1 / 2 ^ 16; let y3 := y2 + y2 / 2 ^ 32; y < 2 ^ 60 ∧ y1 < 2 ^ 61 ∧ y2 < 2 ^ 62 ∧ y3 < 2 ^ 63 ∧ y3 % 128 = c0 + (c1 + (c2 + (c3 + (c4 + (c5 + (c6 + (c7 + 0)))))))) := by
  intro y y1 y2 y3
  have hy : y = c0 + 256 * (c1 + 256 * (c2 + 256 * (c3 + 256 * (c4 + 256 * (c5 + 256 * (c6 + 256 * (c7 + 256 * 0))))))) := rfl
  have q1 : y1 = y + y / 2 ^ 8 := rfl
  have q2 : y2 = y1 + y1 / 2 ^ 16 := rfl
  have q3 : y3 = y2 + y2 / 2 ^ 32 := rfl
  clear_value y y1 y2 y3
  have a1 : y / 2 ^ 8 = c1 + 256 * (c2 + 256 * (c3 + 256 * (c4 + 256 * (c5 + 256 * (c6 + 256 * c7))))) := by omega
  obtain ⟨d0, hd0⟩ : ∃ d, d = c0 + c1 := ⟨_, rfl⟩
  obtain ⟨d1, hd1⟩ : ∃ d, d = c1 + c2 := ⟨_, rfl⟩
  obtain ⟨d2, hd2⟩ : ∃ d, d = c2 + c3 := ⟨_, rfl⟩
  obtain ⟨d3, hd3⟩ : ∃ d, d = c3 + c4 := ⟨_, rfl⟩
  obtain ⟨d4, hd4⟩ : ∃ d, d = c4 + c5 := ⟨_, rfl⟩
  obtain ⟨d5, hd5⟩ : ∃ d, d = c5 + c6 := ⟨_, rfl⟩
  obtain ⟨d6, hd6⟩ : ∃ d, d = c6 + c7 := ⟨_, rfl⟩
  have b1 : y1 = d0 + 256 * (d1 + 256 * (d2 + 256 * (d3 + 256 * (d4 + 256 * (d5 + 256 * (d6 + 256 * c7)))))) := by omega
  have k0 : d0 ≤ 16 ∧ d1 ≤ 16 ∧ d2 ≤ 16 ∧ d3 ≤ 16 ∧ d4 ≤ 16 ∧ d5 ≤ 16 ∧ d6 ≤ 16 := by omega
  have hsum : c0 + (c1 + (c2 + (c3 + (c4 + (c5 + (c6 + (c7 + 0))))))) = d0 + d2 + d4 + d6 := by omega
  rw [hsum]
  have y60 : y < 2 ^ 60 := by omega
  clear hy q1 a1 hd0 hd1 hd2 hd3 hd4 hd5 hd6 hsum
  have a2 : y1 / 2 ^ 16 = d2 + 256 * (d3 + 256 * (d4 + 256 * (d5 + 256 * (d6 + 256 * c7)))) := by omega
  obtain ⟨e0, he0⟩ : ∃ e, e = d0 + d2 := ⟨_, rfl⟩
  obtain ⟨e1, he1⟩ : ∃ e, e = d1 + d3 := ⟨_, rfl⟩
  obtain ⟨e2, he2⟩ : ∃ e, e = d2 + d4 := ⟨_, rfl⟩
  obtain ⟨e3, he3⟩ : ∃ e, e = d3 + d5 := ⟨_, rfl⟩
  obtain ⟨e4, he4⟩ : ∃ e, e = d4 + d6 := ⟨_, rfl⟩
  obtain ⟨e5, he5⟩ : ∃ e, e = d5 + c7 := ⟨_, rfl⟩
  have b2 : y2 = e0 + 256 * (e1 + 256 * (e2 + 256 * (e3 + 256 * (e4 + 256 * (e5 + 256 * (d6 + 256 * c7)))))) := by omega
  have k1 : e0 ≤ 32 ∧ e1 ≤ 32 ∧ e2 ≤ 32 ∧ e3 ≤ 32 ∧ e4 ≤ 32 ∧ e5 ≤ 32 := by omega
  have hsum : d0 + d2 + d4 + d6 = e0 + e4 := by omega
  rw [hsum]
  have y61 : y1 < 2 ^ 61 := by omega
  clear b1 q2 a2 he0 he1 he2 he3 he4 he5 hsum
  have a3 : y2 / 2 ^ 32 = e4 + 256 * (e5 + 256 * (d6 + 256 * c7)) := by omega
  refine ⟨y60, y61, by omega, by omega, by omega⟩
theorem sums_ok (x : Nat) (hx : x < 2 ^ 64) : (let y := po3 8 (po2 8 (po1 8 x)); let y1 := y + y / 2 ^ 8; let y2 := y1 + y1 / 2 ^ 16; let y3 := y2 + y2 / 2 ^ 32; y < 2 ^ 60 ∧ y1 < 2 ^ 61 ∧ y2 < 2 ^ 62 ∧ y3 < 2 ^ 63 ∧ y3 % 128 = popN 64 x) := by
  have hp := popN_byte
  have q : ∀ z : Nat, popN 8 (z % 256) ≤ 8 := fun z => (pt12_ok ⟨z % 256, by omega⟩).2.2
  have h0 := q x
  have h1 := q (x / 256)
  have h2 := q (x / 256 / 256)
  have h3 := q (x / 256 / 256 / 256)
  have h4 := q (x / 256 / 256 / 256 / 256)
  have h5 := q (x / 256 / 256 / 256 / 256 / 256)
  have h6 := q (x / 256 / 256 / 256 / 256 / 256 / 256)
  have h7 := q (x / 256 / 256 / 256 / 256 / 256 / 256 / 256)
  have e0 : popN 64 x = popN 8 (x % 256) + popN 56 (x / 256) := hp 56 x
  have e1 : popN 56 (x / 256) = popN 8 (x / 256 % 256) + popN 48 (x / 256 / 256) := hp 48 _
  have e2 : popN 48 (x / 256 / 256) = popN 8 (x / 256 / 256 % 256) + popN 40 (x / 256 / 256 / 256) := hp 40 _
  have e3 : popN 40 (x / 256 / 256 / 256) = popN 8 (x / 256 / 256 / 256 % 256) + popN 32 (x / 256 / 256 / 256 / 256) := hp 32 _
  have e4 : popN 32 (x / 256 / 256 / 256 / 256) = popN 8 (x / 256 / 256 / 256 / 256 % 256) + popN 24 (x / 256 / 256 / 256 / 256 / 256) := hp 24 _
  have e5 : popN 24 (x / 256 / 256 / 256 / 256 / 256) = popN 8 (x / 256 / 256 / 256 / 256 / 256 % 256) + popN 16 (x / 256 / 256 / 256 / 256 / 256 / 256) := hp 16 _
  have e6 : popN 16 (x / 256 / 256 / 256 / 256 / 256 / 256) = popN 8 (x / 256 / 256 / 256 / 256 / 256 / 256 % 256) + popN 8 (x / 256 / 256 / 256 / 256 / 256 / 256 / 256) := hp 8 _
  have e7 : popN 8 (x / 256 / 256 / 256 / 256 / 256 / 256 / 256) = popN 8 (x / 256 / 256 / 256 / 256 / 256 / 256 / 256 % 256) + popN 0 (x / 256 / 256 / 256 / 256 / 256 / 256 / 256 / 256) := hp 0 _
  rw [e0, e1, e2, e3, e4, e5, e6, e7, show popN 0 (x / 256 / 256 / 256 / 256 / 256 / 256 / 256 / 256) = 0 from rfl]
  simp only [po_step, (po_zero _).2.2]
  generalize popN 8 (x % 256) = c0 at *
  generalize popN 8 (x / 256 % 256) = c1 at *
  generalize popN 8 (x / 256 / 256 % 256) = c2 at *
  generalize popN 8 (x / 256 / 256 / 256 % 256) = c3 at *
  generalize popN 8 (x / 256 / 256 / 256 / 256 % 256) = c4 at *
  generalize popN 8 (x / 256 / 256 / 256 / 256 / 256 % 256) = c5 at *
  generalize popN 8 (x / 256 / 256 / 256 / 256 / 256 / 256 % 256) = c6 at *
  generalize popN 8 (x / 256 / 256 / 256 / 256 / 256 / 256 / 256 % 256) = c7 at *
  exact sums8 h0 h1 h2 h3 h4 h5 h6 h7
def popI (x : Int) : Int := (popK x.toNat 64 : Int)
theorem popI_bd (x : Int) : 0 ≤ popI x ∧ popI x ≤ 64 := by unfold popI; have := popK_le x.toNat 64; omega
theorem and_nat {a b : Nat} (ha : a < 2 ^ 64) (hb : b < 2 ^ 64) : bits .and .u64 (a : Int) (b : Int) = ((a &&& b : Nat) : Int) := (bits_nat .u64 64 (Nat.le_refl _) wrap_u64n a b ha hb).1
theorem sh_nat (a k : Nat) (q : Int) (hq : q = (k : Int)) (hk : k ≤ 64) : (a : Int) / 2 ^ min q.toNat IntKind.u64.bits = ((a / 2 ^ k : Nat) : Int) := by
  subst hq
  rw [Int.toNat_natCast, show min k IntKind.u64.bits = k from Nat.min_eq_left hk]
  push_cast; rfl
theorem wrap_nat {a : Nat} (ha : a < 2 ^ 64) : IntKind.u64.wrap (a : Int) = a := wrap_u64n _ (Int.natCast_nonneg _) (by exact_mod_cast ha)
theorem ones64 {x : Int} (hx : 0 ≤ x ∧ x < 18446744073709551616) : (
    let a := IntKind.u64.wrap (bits .and .u64 (x / 2 ^ min (1 : Int).toNat IntKind.u64.bits) 6148914691236517205 + bits .and .u64 x 6148914691236517205)
    let b := IntKind.u64.wrap (bits .and .u64 (a / 2 ^ min (2 : Int).toNat IntKind.u64.bits) 3689348814741910323 + bits .and .u64 a 3689348814741910323)
    let c := bits .and .u64 (IntKind.u64.wrap (b / 2 ^ min (4 : Int).toNat IntKind.u64.bits + b)) 1085102592571150095
    let d := IntKind.u64.wrap (c + c / 2 ^ min (8 : Int).toNat IntKind.u64.bits)
    let e := IntKind.u64.wrap (d + d / 2 ^ min (16 : Int).toNat IntKind.u64.bits)
    let f := IntKind.u64.wrap (e + e / 2 ^ min (32 : Int).toNat IntKind.u64.bits)
    0 ≤ f ∧ f ≤ 9223372036854775807 ∧ f % 128 = popI x) := by
  obtain ⟨n, rfl⟩ := Int.eq_ofNat_of_zero_le hx.1
  have hn : n < 2 ^ 64 := by have := hx.2; omega
  have hand : ∀ p q : Nat, p &&& q ≤ q := fun p q => Nat.and_le_right
  have hs := sums_ok n hn
  have k1 : (6148914691236517205 : Int) = ((rep 85 8 : Nat) : Int) := rfl
  have k2 : (3689348814741910323 : Int) = ((rep 51 8 : Nat) : Int) := rfl
  have k3 : (1085102592571150095 : Int) = ((rep 15 8 : Nat) : Int) := rfl
  have b1 : rep 85 8 = 6148914691236517205 := rfl
  have b2 : rep 51 8 = 3689348814741910323 := rfl
  have b3 : rep 15 8 = 1085102592571150095 := rfl
  have ha : po1 8 n < 2 ^ 64 := by
    unfold po1; have := hand (n / 2) (rep 85 8); have := hand n (rep 85 8); omega
  have hb : po2 8 (po1 8 n) < 2 ^ 63 := by
    unfold po2; have := hand (po1 8 n / 4) (rep 51 8); have := hand (po1 8 n) (rep 51 8); omega
  have e1 : IntKind.u64.wrap (bits .and .u64 ((n : Int) / 2 ^ min (1 : Int).toNat IntKind.u64.bits) 6148914691236517205 + bits .and .u64 n 6148914691236517205) = ((po1 8 n : Nat) : Int) := by
    rw [k1, sh_nat n 1 1 rfl (by omega), and_nat (by omega) (by omega), and_nat hn (by omega), ← Int.natCast_add, ← wrap_nat ha]; rfl
  have e2 : IntKind.u64.wrap (bits .and .u64 (((po1 8 n : Nat) : Int) / 2 ^ min (2 : Int).toNat IntKind.u64.bits) 3689348814741910323 + bits .and .u64 ((po1 8 n : Nat) : Int) 3689348814741910323) = ((po2 8 (po1 8 n) : Nat) : Int) := by
    rw [k2, sh_nat _ 2 2 rfl (by omega), and_nat (by omega) (by omega), and_nat ha (by omega), ← Int.natCast_add, ← wrap_nat (a := po2 8 (po1 8 n)) (by omega)]; rfl
  have e3 : bits .and .u64 (IntKind.u64.wrap (((po2 8 (po1 8 n) : Nat) : Int) / 2 ^ min (4 : Int).toNat IntKind.u64.bits + ((po2 8 (po1 8 n) : Nat) : Int))) 1085102592571150095 = ((po3 8 (po2 8 (po1 8 n)) : Nat) : Int) := by
    rw [k3, sh_nat _ 4 4 rfl (by omega), ← Int.natCast_add, wrap_nat (by omega), and_nat (by omega) (by omega)]; rfl
  simp only [] at hs
  obtain ⟨q0, q1, q2, q3, q4⟩ := hs
  simp only [e1, e2, e3]
  generalize po3 8 (po2 8 (po1 8 n)) = y at *
  rw [sh_nat _ 8 8 rfl (by omega), ← Int.natCast_add, wrap_nat (by omega)]
  rw [sh_nat _ 16 16 rfl (by omega), ← Int.natCast_add, wrap_nat (by omega)]
  rw [sh_nat _ 32 32 rfl (by omega), ← Int.natCast_add, wrap_nat (by omega)]
  unfold popI
  rw [Int.toNat_natCast, ← popN_K, ← q4]
  refine ⟨by omega, by omega, by omega⟩
/-! digits that are marked -/
def digM (m : VMk) : List Nat := (List.range 128).filter (hasM m)
def cntM (m : VMk) : Int := popI m.lo + popI m.hi
theorem cntM_bd (m : VMk) : 0 ≤ cntM m ∧ cntM m ≤ 128 := by unfold cntM; have := popI_bd m.lo; have := popI_bd m.hi; omega
theorem cnt_dig (m : VMk) : ((digM m).length : Int) = cntM m := by
  unfold digM cntM popI
  rw [show (128 : Nat) = 64 + 64 from rfl, List.range_add, List.filter_append, List.length_append, List.filter_map, List.length_map]
  have e1 : (List.range 64).filter (hasM m) = (List.range 64).filter fun i => m.lo.toNat.testBit i := List.filter_congr fun i hi => hasM_lo (by simpa using hi)
  have e2 : (List.range 64).filter (hasM m ∘ fun x => 64 + x) = (List.range 64).filter fun i => m.hi.toNat.testBit i := List.filter_congr fun i hi => hasM_hi (by simpa using hi)
  rw [e1, e2]
  unfold popK
  push_cast; rfl
theorem filter_le {p : Nat → Bool} {b : Nat} : ∀ n, (∀ d, d < n → p d = true → d < b) → ((List.range n).filter p).length ≤ b ∧ ((List.range n).filter p).length ≤ n
  | 0, _ => by simp
  | n + 1, h => by
    have ih := filter_le n fun d hd => h d (by omega)
    rw [List.range_succ, List.filter_append, List.length_append]
    by_cases hp : p n = true
    · have := h n (by omega) hp
      simp [hp]; omega
    · simp [hp]; omega
theorem cnt_le {s : List Int} {l : List VMk} (h : PhOk s l) (hb : Bases s) {i : Nat} (hi : i < s.length) : 1 ≤ cntM (l.getD i zMk) ∧ cntM (l.getD i zMk) ≤ s.getD i 0 := by
  have hbi := hb i hi
  rw [← cnt_dig]
  constructor
  · obtain ⟨d, hd, hh⟩ := h.some_ i hi
    have : d ∈ digM (l.getD i zMk) := List.mem_filter.2 ⟨by simpa using hd, hh⟩
    have := List.length_pos_of_mem this
    omega
  · have := (filter_le (p := hasM (l.getD i zMk)) (b := (s.getD i 0).toNat) 128 fun d hd hh => by have := h.lt i hi d hd hh; omega).1
    unfold digM; omega
/-! choices -/
def choV (l : List VMk) : Nat → Int
  | 0 => 1
  | i + 1 => choV l i * cntM (l.getD i zMk)
theorem cho_bd {s : List Int} {l : List VMk} (h : PhOk s l) (hs : Stk s) : ∀ i, i ≤ s.length → 1 ≤ choV l i ∧ choV l i ≤ prod (s.take i)
  | 0, _ => by simp [choV, prod]
  | i + 1, hi => by
    have ih := cho_bd h hs i (by omega)
    have hc := cnt_le h hs.bases (i := i) (by omega)
    have h1 : 1 * 1 ≤ choV l i * cntM (l.getD i zMk) := Int.mul_le_mul ih.1 hc.1 (by omega) (by omega)
    have h2 : choV l i * cntM (l.getD i zMk) ≤ prod (s.take i) * s.getD i 0 := Int.mul_le_mul ih.2 hc.2 (by omega) (by omega)
    rw [choV, prod_take (by omega)]
    omega
theorem cho_le {s : List Int} {l : List VMk} (h : PhOk s l) (hs : Stk s) {i : Nat} (hi : i ≤ s.length) : 1 ≤ choV l i ∧ choV l i ≤ 1000000000000 := by
  have h1 := cho_bd h hs i hi
  have h2 := prod_take_le hs.bases i
  have := hs.le
  omega
def lessM (m : VMk) (d : Nat) : Int := (((List.range d).filter (hasM m)).length : Int)
theorem less_succ (m : VMk) (d : Nat) : lessM m (d + 1) = lessM m d + if hasM m d = true then 1 else 0 := by
  unfold lessM
  rw [List.range_succ, List.filter_append, List.length_append]
  by_cases h : hasM m d = true
  · simp [h]
  · simp [h]
theorem less_bd (m : VMk) (d : Nat) : 0 ≤ lessM m d ∧ lessM m d ≤ d := by
  unfold lessM
  have := (filter_le (p := hasM m) (b := d) d fun d hd _ => hd).1
  omega
def belV (l : List VMk) (d : List Int) : Nat → Int → Int
  | 0, n => n
  | i + 1, n => if hasM (l.getD i zMk) (d.getD i 0).toNat = true then belV l d i (n + lessM (l.getD i zMk) (d.getD i 0).toNat * choV l i) else n + lessM (l.getD i zMk) (d.getD i 0).toNat * choV l i
theorem bel_term {s : List Int} {l : List VMk} {d : List Int} (h : PhOk s l) (hs : Stk s) (hd : DigOk s d) {i : Nat} (hi : i < s.length) : 0 ≤ lessM (l.getD i zMk) (d.getD i 0).toNat * choV l i ∧ lessM (l.getD i zMk) (d.getD i 0).toNat * choV l i ≤ 100000000000000 := by
  have h1 := cho_le h hs (i := i) (by omega)
  have h2 := less_bd (l.getD i zMk) (d.getD i 0).toNat
  have h3 := hd i hi
  have h4 := hs.bases i hi
  refine ⟨Int.mul_nonneg (by omega) (by omega), ?_⟩
  have : lessM (l.getD i zMk) (d.getD i 0).toNat * choV l i ≤ 100 * 1000000000000 := Int.mul_le_mul (by omega) h1.2 (by omega) (by omega)
  omega
theorem bel_bd {s : List Int} {l : List VMk} {d : List Int} (h : PhOk s l) (hs : Stk s) (hd : DigOk s d) : ∀ i n, i ≤ s.length → n ≤ belV l d i n ∧ belV l d i n ≤ n + 100000000000000 * i
  | 0, n, _ => by simp [belV]
  | i + 1, n, hi => by
    have ht := bel_term h hs hd (i := i) (by omega)
    have ih := bel_bd h hs hd i (n + lessM (l.getD i zMk) (d.getD i 0).toNat * choV l i) (by omega)
    rw [belV]; split <;> omega
theorem bel_y {l : List VMk} {d : List Int} {i : Nat} {n : Int} (h : hasM (l.getD i zMk) (d.getD i 0).toNat = true) : belV l d (i + 1) n = belV l d i (n + lessM (l.getD i zMk) (d.getD i 0).toNat * choV l i) := by rw [belV, if_pos h]
theorem bel_n {l : List VMk} {d : List Int} {i : Nat} {n : Int} (h : hasM (l.getD i zMk) (d.getD i 0).toNat = false) : belV l d (i + 1) n = n + lessM (l.getD i zMk) (d.getD i 0).toNat * choV l i := by rw [belV, if_neg (by rw [h]; decide)]
def cinV (s : List Int) (p : VPh) (lo hi : Int) : Int × Int :=
  if validPh s p = false then (0, 1) else if ¬ ((0 ≤ lo ∧ lo ≤ size s - 1) ∧ 0 ≤ hi ∧ hi ≤ size s - 1) then (0, 2) else if hi < lo then (0, 0)
  else (belV p.l (digs s hi) s.length 0 - belV p.l (digs s lo) s.length 0 + (if showsM s p.l (digs s hi) = true then 1 else 0), 0)
/-! all values in a photo -/
def stepL (b : Int) (m : VMk) (out : List Int) : List Int := out.flatMap fun v => (digM m).map fun n : Nat => v * b + (n : Int)
def valL (s : List Int) (l : List VMk) : Nat → List Int
  | 0 => [0]
  | j + 1 => stepL (s.getD (s.length - 1 - j) 0) (l.getD (s.length - 1 - j) zMk) (valL s l j)
end Go.W

/- Values in photos, films, ways: in plain numbers. -/
set_option linter.unusedVariables false
set_option linter.unusedSimpArgs false
namespace Go.W
open Go Go.Sx
/-! ### A list of lists of anything -/
structure VX (α : Type) where
  A : Option Addr
  c : Nat
  xs : List α
variable {α : Type}
def encX (r : VX α) : List Value := [.slice r.A r.xs.length r.c]
theorem encX_len : ∀ r : VX α, (encX r).length = 1 := fun _ => rfl
def zX : VX α := ⟨none, 0, []⟩
def rwX (f : α → List Value) (T : TypeId) (sz : Nat) (r : VX α) : Rw := ⟨.slice r.A r.xs.length r.c, T, sz, r.xs.length, r.xs.flatMap f⟩
theorem readsX {C : Cx} {m : List Ent} {i : Nat} {f : α → List Value} {T : TypeId} {sz : Nat} {K : List (VX α)} (hi : m[i]? = some (.pile (K.map (rwX f T sz)))) {k : Nat} (hk : k < K.length) : Reads C m (K.getD k zX).A ((K.getD k zX).xs.flatMap f) :=
  Reads.pile hi (E := T) (sz := sz) (List.mem_map.2 ⟨_, getD_mem zX hk, rfl⟩)
def outX (K : List (VX α)) (n : Nat) : List (VX α) := K ++ List.replicate (n - K.length) zX
theorem outX_len {K : List (VX α)} {n : Nat} (h : K.length ≤ n) : (outX K n).length = n := by unfold outX; simp; omega
theorem outX_all {K : List (VX α)} {n : Nat} (h : K.length = n) : outX K n = K := by unfold outX; rw [h]; simp
theorem outX_set {K : List (VX α)} {n : Nat} (r : VX α) (h : K.length < n) : (outX K n).set K.length r = outX (K ++ [r]) n := by
  unfold outX
  rw [List.set_append_right _ _ (Nat.le_refl _), Nat.sub_self, List.length_append]
  obtain ⟨j, hj⟩ : ∃ j, n - K.length = j + 1 := ⟨n - K.length - 1, by omega⟩
  rw [hj, List.replicate_succ, List.set_cons_zero, List.append_assoc, show n - (K.length + [r].length) = j by simp; omega]; rfl
theorem outX_put {K : List (VX α)} {n i : Nat} {v : List Value} (r : VX α) (h : K.length < n) (hi : i = K.length * 1) (hv : v = encX r) : put ((outX K n).flatMap encX) i v = (outX (K ++ [r]) n).flatMap encX := by
  subst hi hv
  rw [flat_put encX_len _ _ _ (by rw [outX_len (by omega)]; exact h), outX_set r h]
theorem zoutX {zs : List Value} {n : Nat} (h : zs = encX (zX : VX α)) : zerosL zs n = (outX ([] : List (VX α)) n).flatMap encX := by
  subst h; rw [zeros_flat encX_len zX (by omega) n]; unfold outX; simp
theorem outX_last {K : List (VX α)} {r : VX α} {n : Nat} : (outX (K ++ [r]) n).getD K.length zX = r := by
  unfold outX; simp [List.getD]
theorem cellE {β : Type} {C : Cx} {m : List Ent} {A : Option Addr} {f : β → List Value} {sz : Nat} {xs : List β} {i : Int} (j : Nat) {v : Value} {r : β} (H : Reads C m A (xs.flatMap f)) (hf : ∀ x, (f x).length = sz) (d : β) (k : Nat) (hk : Nat.blt k sz = true) (hi : i = (j : Int)) (hj : j < xs.length) (he : xs.getD j d = r) (hv : (f r)[k]? = some v) : CellO C m (offA A (i.toNat * sz + k)) v := by
  subst he; exact cellJ j H hf d k hk hi hj hv
theorem layX {C : Cx} {m F : List Ent} {f : α → List Value} {T : TypeId} {sz b n : Nat} {l : List α} {K : List (VX α)} (hl : l.length = n) (hp : m.Perm (.row (.slice (some ⟨b, 0, none⟩) n n) T sz n (l.flatMap f) :: .pile (K.map (rwX f T sz)) :: F)) : ∀ w, Holds C.base C.w0 m w → Holds C.base C.w0 (.pile ((K ++ [(⟨some ⟨b, 0, none⟩, n, l⟩ : VX α)]).map (rwX f T sz)) :: F) w := by
  subst hl
  rw [List.map_append]
  exact layEnd hp
end Go.W
namespace Go.W
open Go Go.Sx
/-! ### Values in a photo -/
def digI (m : VMk) : List Int := (digM m).map fun n : Nat => (n : Int)
def digP (m : VMk) (k : Nat) : List Int := ((List.range k).filter (hasM m)).map fun n : Nat => (n : Int)
theorem digP_all (m : VMk) : digP m 128 = digI m := rfl
theorem digP_y {m : VMk} {k : Nat} (h : hasM m k = true) : digP m (k + 1) = digP m k ++ [(k : Int)] := by
  unfold digP; rw [List.range_succ, List.filter_append, List.map_append]; simp [h]
theorem digP_n {m : VMk} {k : Nat} (h : hasM m k = false) : digP m (k + 1) = digP m k := by
  unfold digP; rw [List.range_succ, List.filter_append, List.map_append]; simp [h]
theorem digP_len (m : VMk) (k : Nat) : (digP m k).length ≤ k := by
  unfold digP; rw [List.length_map]; exact (filter_le k fun d hd _ => hd).1
theorem digI_len (m : VMk) : ((digI m).length : Int) = cntM m := by unfold digI; rw [List.length_map, cnt_dig]
theorem digI_len' (m : VMk) : (digI m).length ≤ 128 := digP_len m 128
theorem digP_end {m : VMk} {b : Nat} (hb : b ≤ 128) (h : ∀ d, d < 128 → hasM m d = true → d < b) : digP m b = digI m := by
  rw [← digP_all]
  have key : ∀ j, b + j ≤ 128 → digP m (b + j) = digP m b := by
    intro j
    induction j with
    | zero => intro _; rfl
    | succ j ih =>
      intro hj
      rw [← Nat.add_assoc, digP_n, ih (by omega)]
      cases hh : hasM m (b + j)
      · rfl
      · have := h (b + j) (by omega) hh; omega
  have := key (128 - b) (by omega)
  rw [show b + (128 - b) = 128 by omega] at this
  exact this.symm
theorem digI_has {m : VMk} {x : Int} (h : x ∈ digI m) : 0 ≤ x ∧ x < 128 ∧ hasM m x.toNat = true := by
  unfold digI at h
  obtain ⟨n, hn, rfl⟩ := List.mem_map.1 h
  have := List.mem_filter.1 hn
  refine ⟨Int.natCast_nonneg _, ?_, by simpa using this.2⟩
  have := this.1; simp at this; omega
/-- What one value makes of the digits of one more wheel. -/
def oneL (b : Int) (ds : List Int) (v : Int) : List Int := ds.map fun n => v * b + n
def stepV (b : Int) (ds out : List Int) : List Int := out.flatMap (oneL b ds)
def valW (s : List Int) (l : List VMk) : Nat → List Int
  | 0 => [0]
  | j + 1 => stepV (s.getD (s.length - 1 - j) 0) (digI (l.getD (s.length - 1 - j) zMk)) (valW s l j)
def valsP (s : List Int) (p : VPh) : List Int := valW s p.l s.length
theorem one_len (b : Int) (ds : List Int) (v : Int) : (oneL b ds v).length = ds.length := by simp [oneL]
theorem stp_len (b : Int) (ds : List Int) : ∀ out : List Int, (stepV b ds out).length = out.length * ds.length
  | [] => by simp [stepV]
  | v :: out => by
    have := stp_len b ds out
    unfold stepV at this ⊢
    rw [List.flatMap_cons, List.length_append, this, one_len, List.length_cons, Nat.succ_mul, Nat.add_comm]
def partV (b : Int) (ds out : List Int) (q r : Nat) : List Int := stepV b ds (out.take q) ++ oneL b (ds.take r) (out.getD q 0)
theorem ptv_0 (b : Int) (ds out : List Int) : partV b ds out 0 0 = [] := by simp [partV, stepV, oneL]
theorem ptv_snoc {b : Int} {ds out : List Int} {q r : Nat} (hr : r < ds.length) : partV b ds out q (r + 1) = partV b ds out q r ++ [out.getD q 0 * b + ds.getD r 0] := by
  unfold partV oneL
  rw [List.take_succ_eq_append_getElem hr, List.map_append, List.append_assoc]
  simp [List.getD, hr]
theorem ptv_next {b : Int} {ds out : List Int} {q r : Nat} (hq : q < out.length) (hr : r = ds.length) : partV b ds out q r = partV b ds out (q + 1) 0 := by
  subst hr
  unfold partV stepV
  rw [List.take_length, List.take_succ_eq_append_getElem hq, List.flatMap_append]
  simp [oneL, List.getD, hq]
theorem ptv_all {b : Int} {ds out : List Int} : partV b ds out out.length 0 = stepV b ds out := by unfold partV; simp [oneL]
theorem ptv_len (b : Int) (ds out : List Int) (q r : Nat) (hq : q < out.length) (hr : r ≤ ds.length) : (partV b ds out q r).length ≤ out.length * ds.length := by
  unfold partV
  rw [List.length_append, stp_len, one_len, List.length_take, List.length_take, Nat.min_eq_left (by omega), Nat.min_eq_left hr]
  have : (q + 1) * ds.length ≤ out.length * ds.length := Nat.mul_le_mul_right _ (by omega)
  rw [Nat.succ_mul] at this; omega
theorem valW_len {s : List Int} {l : List VMk} : ∀ j, j ≤ s.length → ((valW s l j).length : Int) * choV l (s.length - j) = choV l s.length
  | 0, _ => by simp [valW]
  | j + 1, h => by
    have ih := valW_len (s := s) (l := l) j (by omega)
    rw [valW, stp_len, Int.natCast_mul, digI_len]
    rw [show s.length - j = (s.length - 1 - j) + 1 by omega, choV] at ih
    rw [show s.length - (j + 1) = s.length - 1 - j by omega, Int.mul_assoc, Int.mul_comm (cntM _), ih]
theorem valsP_len (s : List Int) (p : VPh) : ((valsP s p).length : Int) = choV p.l s.length := by
  have := valW_len (s := s) (l := p.l) s.length (Nat.le_refl _)
  rw [Nat.sub_self, choV, Int.mul_one] at this
  exact this
theorem valW_le {s : List Int} {l : List VMk} (h : PhOk s l) (hs : Stk s) {j : Nat} (hj : j ≤ s.length) : 1 ≤ ((valW s l j).length : Int) ∧ ((valW s l j).length : Int) ≤ choV l s.length := by
  have h1 := valW_len (s := s) (l := l) j hj
  have h2 := cho_le h hs (i := s.length - j) (by omega)
  have h3 := cho_le h hs (i := s.length) (by omega)
  rcases Nat.eq_zero_or_pos (valW s l j).length with h0 | h0
  · rw [h0] at h1; simp at h1; omega
  · refine ⟨by omega, ?_⟩
    have : ((valW s l j).length : Int) * 1 ≤ ((valW s l j).length : Int) * choV l (s.length - j) := Int.mul_le_mul_of_nonneg_left h2.1 (by omega)
    omega
theorem valW_bd {s : List Int} {l : List VMk} (h : PhOk s l) (hs : Stk s) : ∀ j, j ≤ s.length → ∀ v ∈ valW s l j, 0 ≤ v ∧ v < prod (s.drop (s.length - j))
  | 0, _, v, hv => by simp [valW] at hv; subst hv; simp [prod]
  | j + 1, hj, v, hv => by
    have ih := valW_bd h hs j (by omega)
    rw [valW] at hv
    obtain ⟨u, hu, hv⟩ := List.mem_flatMap.1 hv
    obtain ⟨n, hn, rfl⟩ := List.mem_map.1 hv
    have hn := digI_has hn
    have h1 := ih u hu
    have hi : s.length - 1 - j < s.length := by omega
    have h2 := h.lt _ hi n.toNat (by omega) hn.2.2
    have hb := hs.bases _ hi
    rw [show s.length - (j + 1) = s.length - 1 - j by omega, prod_drop hi]
    rw [show s.length - j = s.length - 1 - j + 1 by omega] at h1
    generalize s.getD (s.length - 1 - j) 0 = b at *
    generalize prod (s.drop (s.length - 1 - j + 1)) = P at *
    have h3 : 0 ≤ u * b := Int.mul_nonneg h1.1 (by omega)
    have h4 : (u + 1) * b ≤ P * b := Int.mul_le_mul_of_nonneg_right (by omega) (by omega)
    rw [Int.add_mul, Int.mul_comm P b] at h4
    omega
theorem valW_at {s : List Int} {l : List VMk} (h : PhOk s l) (hs : Stk s) {j : Nat} (hj : j ≤ s.length) (q : Nat) : 0 ≤ (valW s l j).getD q 0 ∧ (valW s l j).getD q 0 < 1000000000000 := by
  rcases Nat.lt_or_ge q (valW s l j).length with hq | hq
  · have h1 := valW_bd h hs j hj _ (getD_mem 0 hq)
    have h2 := prod_drop_le hs.bases (s.length - j)
    have := hs.le
    omega
  · simp [List.getD, hq]
theorem valW_mul {s : List Int} {l : List VMk} (h : PhOk s l) (hs : Stk s) {j : Nat} (hj : j + 1 ≤ s.length) (q : Nat) : 0 ≤ (valW s l j).getD q 0 * s.getD (s.length - 1 - j) 0 ∧ (valW s l j).getD q 0 * s.getD (s.length - 1 - j) 0 ≤ 100000000000000 := by
  have h1 := valW_at h hs (j := j) (by omega) q
  have hb := hs.bases (s.length - 1 - j) (by omega)
  refine ⟨Int.mul_nonneg h1.1 (by omega), ?_⟩
  have : (valW s l j).getD q 0 * s.getD (s.length - 1 - j) 0 ≤ 1000000000000 * 100 := Int.mul_le_mul (by omega) hb.2 (by omega) (by omega)
  omega
def vinV (s : List Int) (p : VPh) : List Int × Int := if validPh s p = false then ([], 1) else if 400 < choV p.l s.length then ([], 3) else (valsP s p, 0)
end Go.W

/- Films: photos in a row, and the ways through them; in plain numbers. -/
set_option linter.unusedVariables false
set_option linter.unusedSimpArgs false
namespace Go.W
open Go Go.Sx
def filmL (s : List Int) (L : List VPh) : List (List Int) := L.map (valsP s)
def filmF (s : List Int) (L : List VPh) (k : Nat) : List Int := (filmL s L).getD k []
def badP (s : List Int) (L : List VPh) : Bool := L.any fun p => !photoOk s p.l
def manyP (s : List Int) (L : List VPh) : Bool := L.any fun p => decide (400 < choV p.l s.length)
def codeF (s : List Int) (L : List VPh) (lo hi us : Int) : Int :=
  if (validStack s && !badP s L) = false then 1
  else if ¬ ((1 ≤ L.length ∧ L.length ≤ 20) ∧ 0 ≤ lo ∧ lo ≤ hi ∧ hi ≤ 1000000000000 ∧ lo ≤ us ∧ us ≤ hi) then 2
  else if manyP s L = true then 3 else 0
theorem cf_1 {s : List Int} {L : List VPh} {lo hi us : Int} (h : (validStack s && !badP s L) = false) : codeF s L lo hi us = 1 := by unfold codeF; rw [if_pos h]
theorem cf_2 {s : List Int} {L : List VPh} {lo hi us : Int} (h : (validStack s && !badP s L) = true) (h2 : ¬ ((1 ≤ L.length ∧ L.length ≤ 20) ∧ 0 ≤ lo ∧ lo ≤ hi ∧ hi ≤ 1000000000000 ∧ lo ≤ us ∧ us ≤ hi)) : codeF s L lo hi us = 2 := by
  unfold codeF; rw [if_neg (by rw [h]; decide), if_pos h2]
theorem cf_3 {s : List Int} {L : List VPh} {lo hi us : Int} (h : (validStack s && !badP s L) = true) (h2 : (1 ≤ L.length ∧ L.length ≤ 20) ∧ 0 ≤ lo ∧ lo ≤ hi ∧ hi ≤ 1000000000000 ∧ lo ≤ us ∧ us ≤ hi) (h3 : manyP s L = true) : codeF s L lo hi us = 3 := by
  unfold codeF; rw [if_neg (by rw [h]; decide), if_neg (fun h9 => h9 h2), if_pos h3]
theorem cf_0 {s : List Int} {L : List VPh} {lo hi us : Int} (h : (validStack s && !badP s L) = true) (h2 : (1 ≤ L.length ∧ L.length ≤ 20) ∧ 0 ≤ lo ∧ lo ≤ hi ∧ hi ≤ 1000000000000 ∧ lo ≤ us ∧ us ≤ hi) (h3 : manyP s L = false) : codeF s L lo hi us = 0 := by
  unfold codeF; rw [if_neg (by rw [h]; decide), if_neg (fun h9 => h9 h2), if_neg (by rw [h3]; decide)]
theorem any_no {α : Type} {L : List α} {p : α → Bool} {d : α} {k : Nat} (hk : ¬ k < L.length) (h : ∀ i, i < k → p (L.getD i d) = false) : L.any p = false := by
  rw [List.any_eq_false]
  intro x hx
  obtain ⟨i, hi, rfl⟩ := List.getElem_of_mem hx
  have := h i (by omega)
  simpa [List.getD, hi] using this
theorem any_yes {α : Type} {L : List α} {p : α → Bool} {d : α} {k : Nat} (hk : k < L.length) (h : p (L.getD k d) = true) : L.any p = true := by
  rw [List.any_eq_true]; exact ⟨_, getD_mem d hk, h⟩
theorem any_at {α : Type} {L : List α} {p : α → Bool} {d : α} {k : Nat} (h : L.any p = false) (hk : k < L.length) : p (L.getD k d) = false := by
  rw [List.any_eq_false] at h
  have := h _ (getD_mem d hk)
  simpa using this
/-- What holds of a film whose code is 0. -/
structure Film (s : List Int) (L : List VPh) (lo hi us : Int) : Prop where
  vs : validStack s = true
  st : Stk s
  ok : ∀ k, k < L.length → PhOk s (L.getD k zPh).l
  len : 1 ≤ L.length ∧ L.length ≤ 20
  l0 : 0 ≤ lo
  le : lo ≤ hi
  h1 : hi ≤ 1000000000000
  us0 : lo ≤ us ∧ us ≤ hi
  cho : ∀ k, k < L.length → 1 ≤ choV (L.getD k zPh).l s.length ∧ choV (L.getD k zPh).l s.length ≤ 400
theorem okPs {s : List Int} {L : List VPh} (hL : ∀ p ∈ L, OkPh p) (h : (validStack s && !badP s L) = true) {k : Nat} (hk : k < L.length) : PhOk s (L.getD k zPh).l := by
  rw [Bool.and_eq_true, Bool.not_eq_true'] at h
  have := any_at (d := zPh) h.2 hk
  rw [Bool.not_eq_false'] at this
  exact phOk (stk h.1) (hL _ (getD_mem zPh hk)) this
theorem film {s : List Int} {L : List VPh} {lo hi us : Int} (hL : ∀ p ∈ L, OkPh p) (h : codeF s L lo hi us = 0) : Film s L lo hi us := by
  cases h1 : (validStack s && !badP s L) with
  | false => rw [cf_1 h1] at h; cases h
  | true =>
    by_cases h2 : (1 ≤ L.length ∧ L.length ≤ 20) ∧ 0 ≤ lo ∧ lo ≤ hi ∧ hi ≤ 1000000000000 ∧ lo ≤ us ∧ us ≤ hi
    · cases h3 : manyP s L with
      | true => rw [cf_3 h1 h2 h3] at h; cases h
      | false =>
        have hv : validStack s = true := by rw [Bool.and_eq_true] at h1; exact h1.1
        have hS := stk hv
        have hP := fun k hk => okPs hL h1 (k := k) hk
        refine ⟨hv, hS, hP, h2.1, h2.2.1, h2.2.2.1, h2.2.2.2.1, h2.2.2.2.2, fun k hk => ⟨(cho_le (hP k hk) hS (Nat.le_refl _)).1, ?_⟩⟩
        have := any_at (d := zPh) h3 hk
        rw [decide_eq_false_iff_not] at this
        omega
    · rw [cf_2 h1 h2] at h; cases h
/-! values of a film -/
theorem film_at {s : List Int} {L : List VPh} {k : Nat} (hk : k < L.length) : filmF s L k = valsP s (L.getD k zPh) := by
  simp [filmF, filmL, List.getD, hk]
theorem Film.vlen {s : List Int} {L : List VPh} {lo hi us : Int} (h : Film s L lo hi us) {k : Nat} (hk : k < L.length) : 1 ≤ (filmF s L k).length ∧ (filmF s L k).length ≤ 400 := by
  rw [film_at hk]
  have h1 := valsP_len s (L.getD k zPh)
  have h2 := h.cho k hk
  omega
theorem Film.v {s : List Int} {L : List VPh} {lo hi us : Int} (h : Film s L lo hi us) {k : Nat} (hk : k < L.length) (q : Nat) : 0 ≤ (filmF s L k).getD q 0 ∧ (filmF s L k).getD q 0 < 1000000000000 := by
  rw [film_at hk]; exact valW_at (h.ok k hk) h.st (Nat.le_refl _) q
def goesB (lo hi a b : Int) : Bool := decide (lo ≤ b - a ∧ b - a ≤ hi)
/-! how many ways -/
def sumT (l : List Int) : Nat → Int
  | 0 => 0
  | k + 1 => sumT l k + l.getD k 0
def wSum (lo hi : Int) (pv b : List Int) (v : Int) : Nat → Int
  | 0 => 0
  | j + 1 => wSum lo hi pv b v j + if goesB lo hi (pv.getD j 0) v = true then b.getD j 0 else 0
def wayL (lo hi : Int) (F : Nat → List Int) : Nat → List Int
  | 0 => (F 0).map fun _ => 1
  | k + 1 => (F (k + 1)).map fun v => wSum lo hi (F k) (wayL lo hi F k) v (F k).length
def wTot (lo hi : Int) (F : Nat → List Int) (k : Nat) : Int := sumT (wayL lo hi F k) (F k).length
def wOver (lo hi : Int) (F : Nat → List Int) (k : Nat) : Bool := decide (1000000000000000 < wTot lo hi F k)
def waysV (s : List Int) (L : List VPh) (lo hi : Int) : Int × Int :=
  if codeF s L lo hi lo ≠ 0 then (0, codeF s L lo hi lo)
  else if (List.range L.length).any (wOver lo hi (filmF s L)) = true then (0, 3) else (wTot lo hi (filmF s L) (L.length - 1), 0)
theorem way_len (lo hi : Int) (F : Nat → List Int) : ∀ k, (wayL lo hi F k).length = (F k).length
  | 0 => by simp [wayL]
  | k + 1 => by simp [wayL]
theorem way_0 {lo hi : Int} {F : Nat → List Int} {i : Nat} (h : i < (F 0).length) : (wayL lo hi F 0).getD i 0 = 1 := by
  rw [wayL]; generalize F 0 = l at h; simp [List.getD, h]
theorem way_s {lo hi : Int} {F : Nat → List Int} {k i : Nat} (h : i < (F (k + 1)).length) : (wayL lo hi F (k + 1)).getD i 0 = wSum lo hi (F k) (wayL lo hi F k) ((F (k + 1)).getD i 0) (F k).length := by
  rw [wayL]; generalize F (k + 1) = l at h; simp [List.getD, h]
theorem sumT_0 {l : List Int} (h : ∀ i, 0 ≤ l.getD i 0) : ∀ k, 0 ≤ sumT l k
  | 0 => by simp [sumT]
  | k + 1 => by rw [sumT]; have := sumT_0 h k; have := h k; omega
theorem sumT_mono {l : List Int} (h : ∀ i, 0 ≤ l.getD i 0) {i j : Nat} (hij : i ≤ j) : sumT l i ≤ sumT l j := by
  induction hij with
  | refl => omega
  | step _ ih => rw [sumT]; have := h; rename_i m _; have := h m; omega
theorem wSum_bd {lo hi v : Int} {pv b : List Int} (h : ∀ i, 0 ≤ b.getD i 0) : ∀ k, 0 ≤ wSum lo hi pv b v k ∧ wSum lo hi pv b v k ≤ sumT b k
  | 0 => by simp [wSum, sumT]
  | k + 1 => by
    have h1 := wSum_bd (lo := lo) (hi := hi) (v := v) (pv := pv) h k
    have h2 := h k
    rw [wSum, sumT]; split <;> omega
theorem wSum_mono {lo hi v : Int} {pv b : List Int} (h : ∀ i, 0 ≤ b.getD i 0) {i j : Nat} (hij : i ≤ j) : wSum lo hi pv b v i ≤ wSum lo hi pv b v j := by
  induction hij with
  | refl => omega
  | step _ ih => rw [wSum]; rename_i m _; have := h m; split <;> omega
theorem way_nn (lo hi : Int) (F : Nat → List Int) : ∀ k i, 0 ≤ (wayL lo hi F k).getD i 0
  | 0, i => by
    rcases Nat.lt_or_ge i (F 0).length with h | h
    · rw [way_0 h]; omega
    · rw [List.getD, List.getElem?_eq_none (by rw [way_len]; exact h)]; simp
  | k + 1, i => by
    rcases Nat.lt_or_ge i (F (k + 1)).length with h | h
    · rw [way_s h]; exact (wSum_bd (way_nn lo hi F k) _).1
    · rw [List.getD, List.getElem?_eq_none (by rw [way_len]; exact h)]; simp
theorem way_le {lo hi : Int} {F : Nat → List Int} {k : Nat} (h : ∀ i, i < k → wOver lo hi F i = false) (i : Nat) : (wayL lo hi F k).getD i 0 ≤ 1000000000000000 := by
  rcases Nat.lt_or_ge i (F k).length with hi2 | hi2
  · match k with
    | 0 => rw [way_0 hi2]; omega
    | k + 1 =>
      rw [way_s hi2]
      have h1 := (wSum_bd (lo := lo) (hi := hi) (v := (F (k + 1)).getD i 0) (pv := F k) (way_nn lo hi F k) (F k).length).2
      have h2 := h k (by omega)
      unfold wOver wTot at h2
      rw [decide_eq_false_iff_not] at h2
      omega
  · rw [List.getD, List.getElem?_eq_none (by rw [way_len]; exact hi2)]; simp
theorem sumT_le {l : List Int} {B : Int} (h : ∀ i, l.getD i 0 ≤ B) : ∀ k : Nat, sumT l k ≤ B * k
  | 0 => by simp [sumT]
  | k + 1 => by rw [sumT]; have := sumT_le h k; have := h k; push_cast; rw [Int.mul_add]; omega
theorem wv_c {s : List Int} {L : List VPh} {lo hi : Int} (h : codeF s L lo hi lo ≠ 0) : waysV s L lo hi = (0, codeF s L lo hi lo) := by unfold waysV; rw [if_pos h]
theorem wv_3 {s : List Int} {L : List VPh} {lo hi : Int} {k i : Nat} (h : codeF s L lo hi lo = 0) (hk : k < L.length) (hi2 : i ≤ (filmF s L k).length) (ho : 1000000000000000 < sumT (wayL lo hi (filmF s L) k) i) : waysV s L lo hi = (0, 3) := by
  have h2 : wOver lo hi (filmF s L) k = true := by
    unfold wOver wTot
    rw [decide_eq_true_iff]
    have := sumT_mono (way_nn lo hi (filmF s L) k) hi2
    omega
  unfold waysV
  rw [if_neg (fun h9 => h9 h), if_pos (List.any_eq_true.2 ⟨k, by simpa using hk, h2⟩)]
theorem wv_0 {s : List Int} {L : List VPh} {lo hi : Int} (h : codeF s L lo hi lo = 0) (hall : ∀ i, i < L.length → wOver lo hi (filmF s L) i = false) : waysV s L lo hi = (wTot lo hi (filmF s L) (L.length - 1), 0) := by
  unfold waysV
  rw [if_neg (fun h9 => h9 h), if_neg (by rw [Bool.not_eq_true, List.any_eq_false]; intro x hx; rw [hall x (by simpa using hx)]; decide)]
/-! a way that is given -/
def wayOk (lo hi : Int) (F : Nat → List Int) (v : List Int) (k : Nat) : Bool := (F k).contains (v.getD k 0) && (decide (k = 0) || goesB lo hi (v.getD (k - 1) 0) (v.getD k 0))
def checkV (s : List Int) (L : List VPh) (v : List Int) (lo hi : Int) : Bool × Int :=
  if codeF s L lo hi lo ≠ 0 then (false, codeF s L lo hi lo) else (decide (v.length = L.length) && (List.range L.length).all (wayOk lo hi (filmF s L) v), 0)
theorem ck_c {s : List Int} {L : List VPh} {v : List Int} {lo hi : Int} (h : codeF s L lo hi lo ≠ 0) : checkV s L v lo hi = (false, codeF s L lo hi lo) := by unfold checkV; rw [if_pos h]
theorem ck_l {s : List Int} {L : List VPh} {v : List Int} {lo hi : Int} (h : codeF s L lo hi lo = 0) (hl : ¬ v.length = L.length) : checkV s L v lo hi = (false, 0) := by unfold checkV; rw [if_neg (fun h9 => h9 h), decide_eq_false hl]; rfl
theorem ck_n {s : List Int} {L : List VPh} {v : List Int} {lo hi : Int} {k : Nat} (h : codeF s L lo hi lo = 0) (hk : k < L.length) (hw : wayOk lo hi (filmF s L) v k = false) : checkV s L v lo hi = (false, 0) := by
  unfold checkV
  have : (List.range L.length).all (wayOk lo hi (filmF s L) v) = false := by
    rw [← Bool.not_eq_true, List.all_eq_true]; intro h9; rw [h9 k (by simpa using hk)] at hw; cases hw
  rw [if_neg (fun h9 => h9 h), this, Bool.and_false]
theorem ck_y {s : List Int} {L : List VPh} {v : List Int} {lo hi : Int} (h : codeF s L lo hi lo = 0) (hl : v.length = L.length) (hall : ∀ i, i < L.length → wayOk lo hi (filmF s L) v i = true) : checkV s L v lo hi = (true, 0) := by
  unfold checkV
  have : (List.range L.length).all (wayOk lo hi (filmF s L) v) = true := by rw [List.all_eq_true]; intro x hx; exact hall x (by simpa using hx)
  rw [if_neg (fun h9 => h9 h), this, decide_eq_true hl]; rfl
/-! what can be reached -/
def reachA (lo hi : Int) (pv : List Int) (b : List Bool) (v : Int) (j : Nat) : Bool := (List.range j).any fun i => b.getD i false && goesB lo hi (pv.getD i 0) v
def reachL (lo hi : Int) (F : Nat → List Int) : Nat → List Bool
  | 0 => (F 0).map fun _ => true
  | k + 1 => (F (k + 1)).map fun v => reachA lo hi (F k) (reachL lo hi F k) v (F k).length
theorem ra_0 (lo hi : Int) (pv : List Int) (b : List Bool) (v : Int) : reachA lo hi pv b v 0 = false := rfl
theorem ra_s (lo hi : Int) (pv : List Int) (b : List Bool) (v : Int) (j : Nat) : reachA lo hi pv b v (j + 1) = (reachA lo hi pv b v j || (b.getD j false && goesB lo hi (pv.getD j 0) v)) := by
  unfold reachA; rw [List.range_succ, List.any_append]; simp
theorem ra_true {lo hi : Int} {pv : List Int} {b : List Bool} {v : Int} {i j : Nat} (h : reachA lo hi pv b v i = true) (hij : i ≤ j) : reachA lo hi pv b v j = true := by
  unfold reachA at h ⊢
  rw [List.any_eq_true] at h ⊢
  obtain ⟨x, hx, h⟩ := h
  exact ⟨x, by simp at hx ⊢; omega, h⟩
theorem reach_len (lo hi : Int) (F : Nat → List Int) : ∀ k, (reachL lo hi F k).length = (F k).length
  | 0 => by simp [reachL]
  | k + 1 => by simp [reachL]
theorem reach_0 {lo hi : Int} {F : Nat → List Int} {i : Nat} (h : i < (F 0).length) : (reachL lo hi F 0).getD i false = true := by
  rw [reachL]; generalize F 0 = l at h; simp [List.getD, h]
theorem reach_s {lo hi : Int} {F : Nat → List Int} {k i : Nat} (h : i < (F (k + 1)).length) : (reachL lo hi F (k + 1)).getD i false = reachA lo hi (F k) (reachL lo hi F k) ((F (k + 1)).getD i 0) (F k).length := by
  rw [reachL]; generalize F (k + 1) = l at h; simp [List.getD, h]
def stuckI (lo hi : Int) (F : Nat → List Int) (n : Nat) : Option Nat := (List.range n).find? fun k => !(reachL lo hi F k).any id
def stuckV (s : List Int) (L : List VPh) (lo hi : Int) : Int × Int :=
  if codeF s L lo hi lo ≠ 0 then (0, codeF s L lo hi lo) else match stuckI lo hi (filmF s L) L.length with
  | some k => ((k : Int), 0)
  | none => (0, 6)
theorem sv_c {s : List Int} {L : List VPh} {lo hi : Int} (h : codeF s L lo hi lo ≠ 0) : stuckV s L lo hi = (0, codeF s L lo hi lo) := by unfold stuckV; rw [if_pos h]
theorem sv_y {s : List Int} {L : List VPh} {lo hi : Int} {k : Nat} (h : codeF s L lo hi lo = 0) (hk : k < L.length) (hall : ∀ i, i < k → (reachL lo hi (filmF s L) i).any id = true) (hn : (reachL lo hi (filmF s L) k).any id = false) : stuckV s L lo hi = ((k : Int), 0) := by
  have : stuckI lo hi (filmF s L) L.length = some k := by
    unfold stuckI
    rw [List.find?_range_eq_some]
    refine ⟨by rw [hn]; rfl, by simpa using hk, fun j hj => by rw [hall j hj]; rfl⟩
  unfold stuckV
  rw [if_neg (fun h9 => h9 h), this]
theorem sv_n {s : List Int} {L : List VPh} {lo hi : Int} (h : codeF s L lo hi lo = 0) (hall : ∀ i, i < L.length → (reachL lo hi (filmF s L) i).any id = true) : stuckV s L lo hi = (0, 6) := by
  have : stuckI lo hi (filmF s L) L.length = none := by
    unfold stuckI
    rw [List.find?_eq_none]
    intro x hx
    rw [hall x (by simpa using hx)]; decide
  unfold stuckV
  rw [if_neg (fun h9 => h9 h), this]
end Go.W

/- Films: least sums to the end, what is sure, the likeliest way; in plain numbers. -/
set_option linter.unusedVariables false
set_option linter.unusedSimpArgs false
namespace Go.W
open Go Go.Sx
def absW (n : Int) : Int := if n < 0 then -n else n
theorem absW_0 (n : Int) : 0 ≤ absW n := by unfold absW; split <;> omega
/-- The least sum that goes on from a value, among the first values of the next photo; -1 if none does. -/
def minC (lo hi us v : Int) (nv nc : List Int) : Nat → Int
  | 0 => -1
  | j + 1 => if nc.getD j 0 < 0 ∨ goesB lo hi v (nv.getD j 0) = false then minC lo hi us v nv nc j
    else if minC lo hi us v nv nc j < 0 ∨ nc.getD j 0 + absW (nv.getD j 0 - v - us) < minC lo hi us v nv nc j then nc.getD j 0 + absW (nv.getD j 0 - v - us) else minC lo hi us v nv nc j
/-- costL t: the sums of the photo that lies t before the last. -/
def costL (lo hi us : Int) (F : Nat → List Int) (n : Nat) : Nat → List Int
  | 0 => (F (n - 1)).map fun _ => 0
  | t + 1 => (F (n - 2 - t)).map fun v => minC lo hi us v (F (n - 1 - t)) (costL lo hi us F n t) (F (n - 1 - t)).length
theorem mc_n {lo hi us v : Int} {nv nc : List Int} {j : Nat} (h : nc.getD j 0 < 0 ∨ goesB lo hi v (nv.getD j 0) = false) : minC lo hi us v nv nc (j + 1) = minC lo hi us v nv nc j := by rw [minC, if_pos h]
theorem mc_y {lo hi us v : Int} {nv nc : List Int} {j : Nat} (h : ¬ nc.getD j 0 < 0) (h2 : goesB lo hi v (nv.getD j 0) = true) (h3 : minC lo hi us v nv nc j < 0 ∨ nc.getD j 0 + absW (nv.getD j 0 - v - us) < minC lo hi us v nv nc j) : minC lo hi us v nv nc (j + 1) = nc.getD j 0 + absW (nv.getD j 0 - v - us) := by
  rw [minC, if_neg (by rintro (h4 | h4); (· exact h h4); (· rw [h2] at h4; cases h4)), if_pos h3]
theorem mc_k {lo hi us v : Int} {nv nc : List Int} {j : Nat} (h3 : ¬ (minC lo hi us v nv nc j < 0 ∨ nc.getD j 0 + absW (nv.getD j 0 - v - us) < minC lo hi us v nv nc j)) : minC lo hi us v nv nc (j + 1) = minC lo hi us v nv nc j := by
  rw [minC]
  by_cases h : nc.getD j 0 < 0 ∨ goesB lo hi v (nv.getD j 0) = false
  · rw [if_pos h]
  · rw [if_neg h, if_neg h3]
theorem mc_lo (lo hi us v : Int) (nv nc : List Int) : ∀ j, -1 ≤ minC lo hi us v nv nc j
  | 0 => by simp [minC]
  | j + 1 => by
    have h1 := mc_lo lo hi us v nv nc j
    have h2 := absW_0 (nv.getD j 0 - v - us)
    rw [minC]; split
    · exact h1
    · split <;> omega
theorem mc_hi {lo hi us v B : Int} {nv nc : List Int} (hB : 0 ≤ B) (h : ∀ j, nc.getD j 0 ≤ B) (hv : 0 ≤ v ∧ v ≤ 1000000000000) (hn : ∀ j, 0 ≤ nv.getD j 0 ∧ nv.getD j 0 ≤ 1000000000000) (hu : 0 ≤ us ∧ us ≤ 1000000000000) : ∀ j, minC lo hi us v nv nc j ≤ B + 2000000000000
  | 0 => by simp [minC]; omega
  | j + 1 => by
    have h1 := mc_hi (lo := lo) (hi := hi) hB h hv hn hu j
    have h2 := hn j
    have h3 := h j
    have h4 : absW (nv.getD j 0 - v - us) ≤ 2000000000000 := by unfold absW; split <;> omega
    rw [minC]; split
    · exact h1
    · split <;> omega
/-- Where something goes on, the least sum is one of those that do. -/
theorem mc_at {lo hi us v : Int} {nv nc : List Int} : ∀ {j : Nat}, 0 ≤ minC lo hi us v nv nc j → ∃ i, i < j ∧ 0 ≤ nc.getD i 0 ∧ goesB lo hi v (nv.getD i 0) = true ∧ nc.getD i 0 + absW (nv.getD i 0 - v - us) = minC lo hi us v nv nc j
  | 0, h => by simp [minC] at h
  | j + 1, h => by
    rw [minC] at h ⊢
    split at h
    · next hc =>
      rw [if_pos hc]
      obtain ⟨i, h1, h2⟩ := mc_at h
      exact ⟨i, by omega, h2⟩
    · next hc =>
      rw [if_neg hc]
      split at h
      · next hd =>
        rw [if_pos hd]
        refine ⟨j, by omega, by omega, ?_, rfl⟩
        cases hg : goesB lo hi v (nv.getD j 0)
        · exact absurd (.inr hg) hc
        · rfl
      · next hd =>
        rw [if_neg hd]
        obtain ⟨i, h1, h2⟩ := mc_at h
        exact ⟨i, by omega, h2⟩
theorem mc_some {lo hi us v : Int} {nv nc : List Int} {i : Nat} (h0 : 0 ≤ nc.getD i 0) (hg : goesB lo hi v (nv.getD i 0) = true) : ∀ {j : Nat}, i < j → 0 ≤ minC lo hi us v nv nc j
  | 0, h => by omega
  | j + 1, h => by
    have h2 := absW_0 (nv.getD j 0 - v - us)
    rcases Nat.lt_or_ge i j with h1 | h1
    · have ih := mc_some (us := us) h0 hg h1
      rw [minC]; split
      · exact ih
      · split <;> omega
    · obtain rfl : i = j := by omega
      rw [minC, if_neg (by rintro (h4 | h4); (· omega); (· rw [hg] at h4; cases h4))]
      split <;> omega
theorem cost_len (lo hi us : Int) (F : Nat → List Int) (n : Nat) : ∀ t, t < n → (costL lo hi us F n t).length = (F (n - 1 - t)).length
  | 0, _ => by simp [costL]
  | t + 1, _ => by rw [costL, List.length_map, show n - 1 - (t + 1) = n - 2 - t by omega]
theorem cost_0 {lo hi us : Int} {F : Nat → List Int} {n : Nat} (i : Nat) : (costL lo hi us F n 0).getD i 0 = 0 := by
  rw [costL]; simp only [List.getD, List.getElem?_map]; cases (F (n - 1))[i]? <;> rfl
theorem cost_s {lo hi us : Int} {F : Nat → List Int} {n t i : Nat} (h : i < (F (n - 2 - t)).length) : (costL lo hi us F n (t + 1)).getD i 0 = minC lo hi us ((F (n - 2 - t)).getD i 0) (F (n - 1 - t)) (costL lo hi us F n t) (F (n - 1 - t)).length := by
  rw [costL]; generalize F (n - 2 - t) = l at h; simp [List.getD, h]
theorem cost_lo (lo hi us : Int) (F : Nat → List Int) (n : Nat) : ∀ t i, -1 ≤ (costL lo hi us F n t).getD i 0
  | 0, i => by rw [cost_0]; omega
  | t + 1, i => by
    rcases Nat.lt_or_ge i (F (n - 2 - t)).length with h | h
    · rw [cost_s h]; exact mc_lo ..
    · rw [List.getD, List.getElem?_eq_none (by rw [costL, List.length_map]; exact h)]; simp
theorem cost_hi {lo hi us : Int} {F : Nat → List Int} {n : Nat} (hF : ∀ k q, 0 ≤ (F k).getD q 0 ∧ (F k).getD q 0 ≤ 1000000000000) (hu : 0 ≤ us ∧ us ≤ 1000000000000) : ∀ (t i : Nat), (costL lo hi us F n t).getD i 0 ≤ 2000000000000 * (t : Int)
  | 0, i => by rw [cost_0]; simp
  | t + 1, i => by
    rcases Nat.lt_or_ge i (F (n - 2 - t)).length with h | h
    · rw [cost_s h]
      have := mc_hi (lo := lo) (hi := hi) (us := us) (v := (F (n - 2 - t)).getD i 0) (nv := F (n - 1 - t)) (nc := costL lo hi us F n t) (B := 2000000000000 * (t : Int)) (by omega) (cost_hi hF hu t) (hF _ _) (hF _) hu (F (n - 1 - t)).length
      push_cast; omega
    · rw [List.getD, List.getElem?_eq_none (by rw [costL, List.length_map]; exact h)]; simp; omega
/-! what is sure -/
def okAt (lo hi us : Int) (F : Nat → List Int) (n k i : Nat) : Bool := (reachL lo hi F k).getD i false && decide (0 ≤ (costL lo hi us F n (n - 1 - k)).getD i 0)
/-- endL t: of the photo that lies t before the last, what is reached and goes on to the end. -/
def endA (lo hi : Int) (v : Int) (nv : List Int) (e : List Bool) (j : Nat) : Bool := (List.range j).any fun i => e.getD i false && goesB lo hi v (nv.getD i 0)
def endR (lo hi : Int) (r : List Bool) (vs nv : List Int) (e : List Bool) : List Bool := (List.range r.length).map fun i => r.getD i false && endA lo hi (vs.getD i 0) nv e nv.length
def endL (lo hi : Int) (F : Nat → List Int) (n : Nat) : Nat → List Bool
  | 0 => reachL lo hi F (n - 1)
  | t + 1 => endR lo hi (reachL lo hi F (n - 2 - t)) (F (n - 2 - t)) (F (n - 1 - t)) (endL lo hi F n t)
theorem ea_0 (lo hi v : Int) (nv : List Int) (e : List Bool) : endA lo hi v nv e 0 = false := rfl
theorem ea_s (lo hi v : Int) (nv : List Int) (e : List Bool) (j : Nat) : endA lo hi v nv e (j + 1) = (endA lo hi v nv e j || (e.getD j false && goesB lo hi v (nv.getD j 0))) := by
  unfold endA; rw [List.range_succ, List.any_append]; simp
theorem ea_true {lo hi v : Int} {nv : List Int} {e : List Bool} {i j : Nat} (h : endA lo hi v nv e i = true) (hij : i ≤ j) : endA lo hi v nv e j = true := by
  unfold endA at h ⊢
  rw [List.any_eq_true] at h ⊢
  obtain ⟨x, hx, h⟩ := h
  exact ⟨x, by simp at hx ⊢; omega, h⟩
theorem end_len (lo hi : Int) (F : Nat → List Int) (n : Nat) : ∀ t, t < n → (endL lo hi F n t).length = (F (n - 1 - t)).length
  | 0, _ => by rw [endL, reach_len]; rfl
  | t + 1, _ => by rw [endL, endR, List.length_map, List.length_range, reach_len, show n - 1 - (t + 1) = n - 2 - t by omega]
theorem end_at {lo hi : Int} {F : Nat → List Int} {n t i : Nat} (h : i < (F (n - 2 - t)).length) : (endL lo hi F n (t + 1)).getD i false = ((reachL lo hi F (n - 2 - t)).getD i false && endA lo hi ((F (n - 2 - t)).getD i 0) (F (n - 1 - t)) (endL lo hi F n t) (F (n - 1 - t)).length) := by
  rw [endL, endR]
  simp only [List.getD, List.getElem?_map, List.getElem?_range (by rw [reach_len]; exact h : i < (reachL lo hi F (n - 2 - t)).length), Option.map_some, Option.getD_some]
theorem goes_reach {lo hi : Int} {F : Nat → List Int} {k i j : Nat} (hi2 : i < (F k).length) (hj : j < (F (k + 1)).length) (h : (reachL lo hi F k).getD i false = true) (hg : goesB lo hi ((F k).getD i 0) ((F (k + 1)).getD j 0) = true) : (reachL lo hi F (k + 1)).getD j false = true := by
  rw [reach_s hj]
  unfold reachA
  rw [List.any_eq_true]
  exact ⟨i, by simpa using hi2, by rw [h, hg]; rfl⟩
theorem end_ok {lo hi us : Int} {F : Nat → List Int} {n : Nat} : ∀ {t i : Nat}, t < n → i < (F (n - 1 - t)).length → (endL lo hi F n t).getD i false = okAt lo hi us F n (n - 1 - t) i
  | 0, i, ht, hi2 => by
    unfold okAt
    rw [endL, show n - 1 - (n - 1 - 0) = 0 by omega, cost_0]
    simp
  | t + 1, i, ht, hi2 => by
    have e1 : n - 1 - (t + 1) = n - 2 - t := by omega
    rw [e1] at hi2 ⊢
    rw [end_at hi2]
    unfold okAt
    rw [show n - 1 - (n - 2 - t) = t + 1 by omega, cost_s hi2]
    cases hr : (reachL lo hi F (n - 2 - t)).getD i false with
    | false => rfl
    | true =>
      rw [Bool.true_and, Bool.true_and]
      have e2 : n - 2 - t + 1 = n - 1 - t := by omega
      cases he : endA lo hi ((F (n - 2 - t)).getD i 0) (F (n - 1 - t)) (endL lo hi F n t) (F (n - 1 - t)).length with
      | true =>
        unfold endA at he
        rw [List.any_eq_true] at he
        obtain ⟨j, hj, he⟩ := he
        rw [Bool.and_eq_true] at he
        have hj2 : j < (F (n - 1 - t)).length := by simpa using hj
        have h1 := end_ok (lo := lo) (hi := hi) (us := us) (t := t) (by omega) hj2
        rw [he.1] at h1
        unfold okAt at h1
        have h2 := h1.symm
        rw [Bool.and_eq_true, decide_eq_true_iff, show n - 1 - (n - 1 - t) = t by omega] at h2
        exact (decide_eq_true (mc_some h2.2 he.2 hj2)).symm
      | false =>
        symm
        rw [decide_eq_false_iff_not]
        intro hm
        obtain ⟨j, hj, h0, hg, _⟩ := mc_at hm
        have hrj := goes_reach (k := n - 2 - t) hi2 (by rw [e2]; exact hj) hr (by rw [e2]; exact hg)
        rw [e2] at hrj
        have h1 := end_ok (lo := lo) (hi := hi) (us := us) (t := t) (by omega) hj
        unfold okAt at h1
        rw [hrj, show n - 1 - (n - 1 - t) = t by omega, decide_eq_true h0] at h1
        have : endA lo hi ((F (n - 2 - t)).getD i 0) (F (n - 1 - t)) (endL lo hi F n t) (F (n - 1 - t)).length = true := by
          unfold endA
          rw [List.any_eq_true]
          exact ⟨j, by simpa using hj, by rw [h1, hg]; rfl⟩
        rw [he] at this; cases this
theorem any_get {l : List Bool} : l.any id = true ↔ ∃ i, i < l.length ∧ l.getD i false = true := by
  rw [List.any_eq_true]
  constructor
  · rintro ⟨x, hx, h⟩
    obtain ⟨i, hi, rfl⟩ := List.getElem_of_mem hx
    exact ⟨i, hi, by simpa [List.getD, hi] using h⟩
  · rintro ⟨i, hi, h⟩
    exact ⟨_, getD_mem false hi, h⟩
theorem end_any {lo hi : Int} {F : Nat → List Int} {n : Nat} : ∀ {t : Nat}, t < n → ((endL lo hi F n t).any id = true ↔ (reachL lo hi F (n - 1)).any id = true)
  | 0, _ => Iff.rfl
  | t + 1, ht => by
    rw [← end_any (t := t) (by omega), any_get, any_get]
    have e1 : n - 1 - (t + 1) = n - 2 - t := by omega
    have e2 : n - 2 - t + 1 = n - 1 - t := by omega
    constructor
    · rintro ⟨i, hi2, h⟩
      rw [end_len lo hi F n (t + 1) ht, e1] at hi2
      rw [end_at hi2, Bool.and_eq_true] at h
      have h := h.2
      unfold endA at h
      rw [List.any_eq_true] at h
      obtain ⟨j, hj, h⟩ := h
      rw [Bool.and_eq_true] at h
      exact ⟨j, by rw [end_len lo hi F n t (by omega)]; simpa using hj, h.1⟩
    · rintro ⟨j, hj, h⟩
      rw [end_len lo hi F n t (by omega)] at hj
      have h1 := end_ok (lo := lo) (hi := hi) (us := 0) (t := t) (by omega) hj
      rw [h] at h1
      unfold okAt at h1
      have h2 := h1.symm
      rw [Bool.and_eq_true] at h2
      have h3 := h2.1
      rw [← e2] at h3 hj
      rw [reach_s hj] at h3
      unfold reachA at h3
      rw [List.any_eq_true] at h3
      obtain ⟨i, hi2, h3⟩ := h3
      rw [Bool.and_eq_true] at h3
      have hi3 : i < (F (n - 2 - t)).length := by simpa using hi2
      refine ⟨i, by rw [end_len lo hi F n (t + 1) ht, e1]; exact hi3, ?_⟩
      rw [end_at hi3, h3.1, Bool.true_and]
      unfold endA
      rw [List.any_eq_true]
      rw [e2] at hj h3
      exact ⟨j, by simpa using hj, by rw [h, h3.2]; rfl⟩
/-- Marks for the digits of values that are sure. -/
def putD (d : List Int) (l : List VMk) (w : Nat) : List VMk := l.set w (putM (l.getD w zMk) (d.getD w 0).toNat)
def putW (s : List Int) (d : List Int) (l : List VMk) : Nat → List VMk
  | 0 => l
  | w + 1 => putD d (putW s d l w) w
def sureM (s : List Int) (vs : List Int) (ok : Nat → Bool) : Nat → List VMk
  | 0 => zPh.l
  | i + 1 => if ok i = true then putW s (digs s (vs.getD i 0)) (sureM s vs ok i) s.length else sureM s vs ok i
theorem putW_len (s d : List Int) (l : List VMk) : ∀ w, (putW s d l w).length = l.length
  | 0 => rfl
  | w + 1 => by rw [putW, putD, List.length_set, putW_len s d l w]
theorem sure_len (s vs : List Int) (ok : Nat → Bool) : ∀ i, (sureM s vs ok i).length = 8
  | 0 => rfl
  | i + 1 => by rw [sureM]; split
                · rw [putW_len, sure_len s vs ok i]
                · exact sure_len s vs ok i
theorem sure_congr {s vs : List Int} {ok ok' : Nat → Bool} : ∀ {n : Nat}, (∀ i, i < n → ok i = ok' i) → sureM s vs ok n = sureM s vs ok' n
  | 0, _ => rfl
  | n + 1, h => by rw [sureM, sureM, h n (by omega), sure_congr fun i hi => h i (by omega)]
def surePs (s : List Int) (L : List VPh) (lo hi : Int) : List VPh := (List.range L.length).map fun k => phot (sureM s (filmF s L k) (okAt lo hi lo (filmF s L) L.length k) (filmF s L k).length)
def sureV (s : List Int) (L : List VPh) (lo hi : Int) : List VPh × Int :=
  if codeF s L lo hi lo ≠ 0 then ([], codeF s L lo hi lo) else if (reachL lo hi (filmF s L) (L.length - 1)).any id = false then ([], 6) else (surePs s L lo hi, 0)
/-! the likeliest way -/
def bestK (c : List Int) : Nat → Int
  | 0 => -1
  | i + 1 => if 0 ≤ c.getD i 0 ∧ (bestK c i < 0 ∨ c.getD i 0 < c.getD (bestK c i).toNat 0) then (i : Int) else bestK c i
def bestC (c : List Int) : Nat → Int
  | 0 => -1
  | i + 1 => if 0 ≤ c.getD i 0 ∧ (bestC c i < 0 ∨ c.getD i 0 < bestC c i) then c.getD i 0 else bestC c i
theorem bk_bd (c : List Int) : ∀ i, -1 ≤ bestK c i ∧ bestK c i < i
  | 0 => by simp [bestK]
  | i + 1 => by have := bk_bd c i; rw [bestK]; split <;> omega
theorem bk_nn (c : List Int) : ∀ j, 0 ≤ bestK c j → 0 ≤ c.getD (bestK c j).toNat 0
  | 0 => by simp [bestK]
  | j + 1 => by
    have ih := bk_nn c j
    by_cases h : 0 ≤ c.getD j 0 ∧ (bestK c j < 0 ∨ c.getD j 0 < c.getD (bestK c j).toNat 0)
    · rw [bestK, if_pos h, Int.toNat_natCast]; exact fun _ => h.1
    · rw [bestK, if_neg h]; exact ih
theorem bk_bc (c : List Int) : ∀ i, (bestK c i < 0 ∧ bestC c i = -1) ∨ (0 ≤ bestK c i ∧ bestC c i = c.getD (bestK c i).toNat 0)
  | 0 => by simp [bestC, bestK]
  | i + 1 => by
    have ih := bk_bc c i
    have hn := bk_nn c i
    by_cases h : 0 ≤ c.getD i 0 ∧ (bestK c i < 0 ∨ c.getD i 0 < c.getD (bestK c i).toNat 0)
    · have h2 : 0 ≤ c.getD i 0 ∧ (bestC c i < 0 ∨ c.getD i 0 < bestC c i) := ⟨h.1, by rcases ih with ih | ih <;> omega⟩
      right
      rw [bestK, bestC, if_pos h, if_pos h2, Int.toNat_natCast]
      exact ⟨by omega, rfl⟩
    · have h2 : ¬ (0 ≤ c.getD i 0 ∧ (bestC c i < 0 ∨ c.getD i 0 < bestC c i)) := by rcases ih with ih | ih <;> omega
      rw [bestK, bestC, if_neg h, if_neg h2]; exact ih
end Go.W

/- Marks as the program reckons them. -/
set_option linter.unusedVariables false
set_option linter.unusedSimpArgs false
namespace Go.W
open Go Go.Sx
theorem has_dec {m : VMk} {d : Nat} (hm : OkMk m) (hd : d < 128) : decide (bits .and .u64 (m.l.getD (d / 64) 0 / 2 ^ min ((d : Int) % 64).toNat IntKind.u64.bits) 1 = 1) = hasM m d := by
  rw [show ((d : Int) % 64) = ((d % 64 : Nat) : Int) by omega, bit_walk (hm.at_ _) (by omega)]
  show decide ((if hasM m d = true then 1 else 0 : Int) = 1) = hasM m d
  cases hasM m d <;> rfl
theorem has_walk {m : VMk} {d : Nat} (hm : OkMk m) (hd : d < 128) : bits .and .u64 (m.l.getD (d / 64) 0 / 2 ^ min ((d : Int) % 64).toNat IntKind.u64.bits) 1 = if hasM m d = true then 1 else 0 := by
  rw [show ((d : Int) % 64) = ((d % 64 : Nat) : Int) by omega, bit_walk (hm.at_ _) (by omega)]; rfl
theorem put_walk {m : VMk} {d : Nat} (hm : OkMk m) (hd : d < 128) : put (encMk m) (0 + ((d / 64 : Nat) : Int).toNat * 1) [.int .u64 (bits .or .u64 (m.l.getD (d / 64) 0) (IntKind.u64.wrap (1 * 2 ^ min ((d : Int) % 64).toNat IntKind.u64.bits)))] = encMk (putM m d) := by
  rw [show ((d : Int) % 64) = ((d % 64 : Nat) : Int) by omega, shl_one (by omega), bits_or1 (hm.at_ _) (by omega)]
  unfold putM
  rw [encMk_mk (by rw [List.length_set]; rfl), Nat.zero_add, Int.toNat_natCast]
  exact flat_put (eI_len .u64) m.l (d / 64) _ (by rw [mk_len]; omega)
theorem pa_1 {s : List Int} {l : List VMk} {k : Nat} (hk : k < s.length) (h : decide ((l.getD k zMk).l = [0, 0]) = true) : phAt s l k = false := by unfold phAt; rw [if_pos hk, h]; rfl
theorem pa_2 {s : List Int} {l : List VMk} {k : Nat} (hk : k < s.length) (h : ¬ bits .andNot .u64 (l.getD k zMk).lo (fullM (s.getD k 0).toNat).lo = 0) : phAt s l k = false := by
  unfold phAt subM; rw [if_pos hk, decide_eq_false (p := _ ∧ _) (fun h9 => h h9.1), Bool.and_false]
theorem pa_3 {s : List Int} {l : List VMk} {k : Nat} (hk : k < s.length) (h : ¬ bits .andNot .u64 (l.getD k zMk).hi (fullM (s.getD k 0).toNat).hi = 0) : phAt s l k = false := by
  unfold phAt subM; rw [if_pos hk, decide_eq_false (p := _ ∧ _) (fun h9 => h h9.2), Bool.and_false]
theorem pa_4 {s : List Int} {l : List VMk} {k : Nat} (hk : k < s.length) (h0 : decide ((l.getD k zMk).l = [0, 0]) = false) (h1 : bits .andNot .u64 (l.getD k zMk).lo (fullM (s.getD k 0).toNat).lo = 0) (h2 : bits .andNot .u64 (l.getD k zMk).hi (fullM (s.getD k 0).toNat).hi = 0) : phAt s l k = true := by
  unfold phAt subM; rw [if_pos hk, h0, decide_eq_true ⟨h1, h2⟩]; rfl
theorem pa_4s {s : List Int} {l : List VMk} {k : Nat} (hk : k < s.length) (h0 : decide ((l.getD k zMk).l = [0, 0]) = false) (h1 : subM (l.getD k zMk) (fullM (s.getD k 0).toNat) = true) : phAt s l k = true := by
  unfold phAt; rw [if_pos hk, h0, h1]; rfl
theorem pa_2s {s : List Int} {l : List VMk} {k : Nat} (hk : k < s.length) (h : subM (l.getD k zMk) (fullM (s.getD k 0).toNat) = false) : phAt s l k = false := by
  unfold phAt; rw [if_pos hk, h, Bool.and_false]
theorem pa_5 {s : List Int} {l : List VMk} {k : Nat} (hk : ¬ k < s.length) (h : (!decide ((l.getD k zMk).l = [0, 0])) = true) : phAt s l k = false := by
  unfold phAt; rw [if_neg hk]; simpa using h
theorem pa_6 {s : List Int} {l : List VMk} {k : Nat} (hk : ¬ k < s.length) (h : (!decide ((l.getD k zMk).l = [0, 0])) = false) : phAt s l k = true := by
  unfold phAt; rw [if_neg hk]; simpa using h
theorem sub_dec {m n : VMk} : subM m n = (decide (bits .andNot .u64 m.lo n.lo = 0) && decide (bits .andNot .u64 m.hi n.hi = 0)) := by
  unfold subM; rw [Bool.decide_and]
theorem sh_1 {s : List Int} {p : VPh} {a : Dig} (h : validPh s p = false) : shV s p a = (false, 1) := by unfold shV; rw [h]; rfl
theorem sh_2 {s : List Int} {p : VPh} {a : Dig} (h : (validStack s && validDig s a.l) = false) : shV s p a = (false, 1) := by unfold shV; rw [h, Bool.and_false]; rfl
theorem sh_0 {s : List Int} {p : VPh} {a : Dig} (h1 : validPh s p = true) (h : (validStack s && validDig s a.l) = true) : shV s p a = (showsM s p.l a.l, 0) := by unfold shV; rw [h, h1]; rfl
end Go.W

/- Counts in photos, as the program reckons them. -/
set_option linter.unusedVariables false
set_option linter.unusedSimpArgs false
namespace Go.W
open Go Go.Sx
theorem ones64' {x a b c d e f : Int} (hx : 0 ≤ x ∧ x < 18446744073709551616)
    (ha : IntKind.u64.wrap (bits .and .u64 (x / 2 ^ min (1 : Int).toNat IntKind.u64.bits) 6148914691236517205 + bits .and .u64 x 6148914691236517205) = a)
    (hb : IntKind.u64.wrap (bits .and .u64 (a / 2 ^ min (2 : Int).toNat IntKind.u64.bits) 3689348814741910323 + bits .and .u64 a 3689348814741910323) = b)
    (hc : bits .and .u64 (IntKind.u64.wrap (b / 2 ^ min (4 : Int).toNat IntKind.u64.bits + b)) 1085102592571150095 = c)
    (hd : IntKind.u64.wrap (c + c / 2 ^ min (8 : Int).toNat IntKind.u64.bits) = d)
    (he : IntKind.u64.wrap (d + d / 2 ^ min (16 : Int).toNat IntKind.u64.bits) = e)
    (hf : IntKind.u64.wrap (e + e / 2 ^ min (32 : Int).toNat IntKind.u64.bits) = f) : 0 ≤ f ∧ f ≤ 9223372036854775807 ∧ f % 128 = popI x := by
  subst ha hb hc hd he hf
  exact ones64 hx
theorem and127 {f : Int} (h : 0 ≤ f ∧ f ≤ 9223372036854775807) : bits .and .i64 f 127 = f % 128 := bits_mask .i64 63 (by decide) wraps_i64 7 (by decide) f h.1 (by have := h.2; omega)
/-! bits, one by one -/
def popJ (x : Int) (k : Nat) : Int := (popK x.toNat k : Int)
theorem popJ_0 (x : Int) : popJ x 0 = 0 := rfl
theorem popJ_s {x : Int} (h : 0 ≤ x) (k : Nat) : popJ x (k + 1) = popJ x k + x / 2 ^ k % 2 := by
  obtain ⟨n, rfl⟩ := Int.eq_ofNat_of_zero_le h
  unfold popJ
  rw [Int.toNat_natCast, popK_succ]
  push_cast; rfl
theorem popJ_bd (x : Int) (k : Nat) : 0 ≤ popJ x k ∧ popJ x k ≤ k := by unfold popJ; have := popK_le x.toNat k; omega
theorem popJ_end {x : Int} {k : Nat} (h : 0 ≤ x) (hk : k ≤ 64) (hz : x / 2 ^ k = 0) : popJ x k = popI x := by
  obtain ⟨n, rfl⟩ := Int.eq_ofNat_of_zero_le h
  unfold popJ popI
  rw [Int.toNat_natCast]
  have hz2 : n / 2 ^ k = 0 := by exact_mod_cast hz
  have := popK_hi hz2 (64 - k)
  rw [show k + (64 - k) = 64 by omega] at this
  rw [this]
theorem pop_lt {x : Int} {k : Nat} (h : 0 ≤ x ∧ x < 18446744073709551616) (hz : ¬ x / 2 ^ k = 0) : k < 64 := by
  rcases Nat.lt_or_ge k 64 with h1 | h1
  · exact h1
  · exfalso
    refine hz (Int.ediv_eq_zero_of_lt h.1 ?_)
    have h2 : (2 : Nat) ^ 64 ≤ 2 ^ k := Nat.pow_le_pow_right (by omega) h1
    have h3 : ((2 : Int)) ^ 64 ≤ 2 ^ k := by exact_mod_cast h2
    have := h.2
    omega
theorem pop_div {x : Int} {k : Nat} : x / 2 ^ k / 2 ^ min (1 : Int).toNat IntKind.u64.bits = x / 2 ^ (k + 1) := by
  rw [show (2 : Int) ^ min (1 : Int).toNat IntKind.u64.bits = 2 from rfl, Int.pow_succ, Int.ediv_ediv_of_nonneg (Int.pow_nonneg (by omega))]
theorem pop_bd {x : Int} {k : Nat} (h : 0 ≤ x ∧ x < 18446744073709551616) : 0 ≤ x / 2 ^ k ∧ x / 2 ^ k < 18446744073709551616 := by
  have h0 : (0 : Int) ≤ 2 ^ k := Int.pow_nonneg (by omega)
  have h1 := Int.ediv_nonneg h.1 h0
  have h2 := Int.ediv_le_self (2 ^ k) h.1
  omega
def cumM (m : VMk) : Nat → Int
  | 0 => 0
  | i + 1 => cumM m i + popI (m.l.getD i 0)
theorem cumM_bd (m : VMk) : ∀ i : Nat, 0 ≤ cumM m i ∧ cumM m i ≤ 64 * i
  | 0 => by simp [cumM]
  | i + 1 => by have := cumM_bd m i; have := popI_bd (m.l.getD i 0); rw [cumM]; omega
theorem cumM_2 (m : VMk) : cumM m 2 = cntM m := by
  show (0 + popI m.lo) + popI m.hi = _
  unfold cntM; omega
/-! how many are less -/
def lessD (ds : List Int) (x : Int) : Nat → Int
  | 0 => 0
  | r + 1 => lessD ds x r + if ds.getD r 0 < x then 1 else 0
theorem lessD_y {ds : List Int} {x : Int} {r : Nat} (h : ds.getD r 0 < x) : lessD ds x (r + 1) = lessD ds x r + 1 := by rw [lessD, if_pos h]
theorem lessD_n {ds : List Int} {x : Int} {r : Nat} (h : ¬ ds.getD r 0 < x) : lessD ds x (r + 1) = lessD ds x r := by rw [lessD, if_neg h, Int.add_zero]
theorem lessD_bd (ds : List Int) (x : Int) : ∀ r : Nat, 0 ≤ lessD ds x r ∧ lessD ds x r ≤ r
  | 0 => by simp [lessD]
  | r + 1 => by have := lessD_bd ds x r; rw [lessD]; split <;> omega
theorem lessD_filter (ds : List Int) (x : Int) : ∀ r, r ≤ ds.length → lessD ds x r = (((ds.take r).filter fun y => decide (y < x)).length : Int)
  | 0, _ => by simp [lessD]
  | r + 1, h => by
    rw [lessD, lessD_filter ds x r (by omega), List.take_succ_eq_append_getElem (by omega : r < ds.length), List.filter_append, List.length_append]
    have e : ds.getD r 0 = ds[r] := by simp [List.getD, show r < ds.length by omega]
    rw [e]
    by_cases hx : ds[r] < x
    · simp [hx]
    · simp [hx]
theorem lessD_M (m : VMk) (d : Nat) : lessD (digI m) (d : Int) (digI m).length = lessM m (min 128 d) := by
  rw [lessD_filter _ _ _ (Nat.le_refl _), List.take_length]
  unfold digI digM
  have key : ∀ K : Nat, ((((((List.range K).filter (hasM m)).map fun n : Nat => (n : Int)).filter fun y => decide (y < (d : Int))).length : Nat) : Int) = lessM m (min K d) := by
    intro K
    induction K with
    | zero => simp [lessM]
    | succ K ih =>
      rw [List.range_succ, List.filter_append, List.map_append, List.filter_append, List.length_append, Int.natCast_add, ih]
      rcases Nat.lt_or_ge K d with h | h
      · rw [show min (K + 1) d = min K d + 1 by omega, less_succ, show min K d = K by omega]
        by_cases hh : hasM m K = true
        · simp [hh, h]
        · simp [hh]
      · rw [show min (K + 1) d = min K d by omega]
        by_cases hh : hasM m K = true
        · simp [hh, show ¬ ((K : Int) < d) by omega]
        · simp [hh]
  exact key 128
theorem less_end {m : VMk} {x : Int} (h : 0 ≤ x ∧ x ≤ 128) : lessD (digI m) x (digI m).length = lessM m x.toNat := by
  obtain ⟨d, rfl⟩ := Int.eq_ofNat_of_zero_le h.1
  rw [lessD_M, Int.toNat_natCast, show min 128 d = d by omega]
/-! what is added up from the last wheel on -/
def termB (l : List VMk) (d : List Int) (i : Nat) : Int := lessM (l.getD i zMk) (d.getD i 0).toNat * choV l i
def accU (l : List VMk) (d : List Int) : Nat → Nat → Int
  | 0, _ => 0
  | n + 1, k => accU l d n (k + 1) + termB l d k
theorem acc_s {l : List VMk} {d : List Int} {n j : Nat} (h : j < n) : accU l d (n - j) j = accU l d (n - (j + 1)) (j + 1) + lessM (l.getD j zMk) (d.getD j 0).toNat * choV l j := by
  obtain ⟨r, hr⟩ : ∃ r, n - j = r + 1 := ⟨n - j - 1, by omega⟩
  rw [hr, accU, show n - (j + 1) = r by omega]; rfl
theorem acc_bd {s : List Int} {l : List VMk} {d : List Int} (h : PhOk s l) (hs : Stk s) (hd : DigOk s d) : ∀ (n k : Nat), k + n ≤ s.length → 0 ≤ accU l d n k ∧ accU l d n k ≤ 100000000000000 * n
  | 0, _, _ => by simp [accU]
  | n + 1, k, hk => by
    have h1 := acc_bd h hs hd n (k + 1) (by omega)
    have h2 := bel_term h hs hd (i := k) (by omega)
    rw [accU]; unfold termB; omega
theorem bel_end {l : List VMk} {d : List Int} {n : Nat} (h : belV l d n 0 = belV l d 0 (accU l d n 0)) : accU l d n 0 = belV l d n 0 := h.symm
theorem bel_step {l : List VMk} {d : List Int} {n j : Nat} (hj : j < n) (h : belV l d n 0 = belV l d (j + 1) (accU l d (n - (j + 1)) (j + 1))) (hh : hasM (l.getD j zMk) (d.getD j 0).toNat = true) : belV l d n 0 = belV l d j (accU l d (n - j) j) := by
  rw [h, bel_y hh, acc_s hj]
theorem bel_stop {l : List VMk} {d : List Int} {n j : Nat} (h : belV l d n 0 = belV l d (j + 1) (accU l d (n - (j + 1)) (j + 1))) (hh : hasM (l.getD j zMk) (d.getD j 0).toNat = false) : accU l d (n - (j + 1)) (j + 1) + lessM (l.getD j zMk) (d.getD j 0).toNat * choV l j = belV l d n 0 := by
  rw [h, bel_n hh]
/-! the statement's own words -/
theorem ci_1 {s : List Int} {p : VPh} {lo hi : Int} (h : validPh s p = false) : cinV s p lo hi = (0, 1) := by unfold cinV; rw [if_pos h]
theorem ci_2 {s : List Int} {p : VPh} {lo hi : Int} (h : validPh s p = true) (h2 : ¬ ((0 ≤ lo ∧ lo ≤ size s - 1) ∧ 0 ≤ hi ∧ hi ≤ size s - 1)) : cinV s p lo hi = (0, 2) := by unfold cinV; rw [if_neg (by rw [h]; decide), if_pos h2]
theorem ci_0 {s : List Int} {p : VPh} {lo hi : Int} (h : validPh s p = true) (h2 : (0 ≤ lo ∧ lo ≤ size s - 1) ∧ 0 ≤ hi ∧ hi ≤ size s - 1) (h3 : hi < lo) : cinV s p lo hi = (0, 0) := by unfold cinV; rw [if_neg (by rw [h]; decide), if_neg (fun h9 => h9 h2), if_pos h3]
theorem ci_y {s : List Int} {p : VPh} {lo hi : Int} (h : validPh s p = true) (h2 : (0 ≤ lo ∧ lo ≤ size s - 1) ∧ 0 ≤ hi ∧ hi ≤ size s - 1) (h3 : ¬ hi < lo) (h4 : showsM s p.l (digs s hi) = true) : cinV s p lo hi = (belV p.l (digs s hi) s.length 0 - belV p.l (digs s lo) s.length 0 + 1, 0) := by
  unfold cinV; rw [if_neg (by rw [h]; decide), if_neg (fun h9 => h9 h2), if_neg h3, if_pos h4]
theorem ci_n {s : List Int} {p : VPh} {lo hi : Int} (h : validPh s p = true) (h2 : (0 ≤ lo ∧ lo ≤ size s - 1) ∧ 0 ≤ hi ∧ hi ≤ size s - 1) (h3 : ¬ hi < lo) (h4 : showsM s p.l (digs s hi) = false) : cinV s p lo hi = (belV p.l (digs s hi) s.length 0 - belV p.l (digs s lo) s.length 0, 0) := by
  unfold cinV; rw [if_neg (by rw [h]; decide), if_neg (fun h9 => h9 h2), if_neg h3, if_neg (by rw [h4]; decide), Int.add_zero]
theorem vph {s : List Int} {p : VPh} (hp : OkPh p) (h : validPh s p = true) : validStack s = true ∧ Stk s ∧ PhOk s p.l := by
  unfold validPh at h
  rw [Bool.and_eq_true] at h
  exact ⟨h.1, stk h.1, phOk (stk h.1) hp h.2⟩
end Go.W

/- Two photos compared. -/
set_option linter.unusedVariables false
namespace Go.W
open Go Go.Sx
def samePhE (a b : VPh) : Bool := (List.range 8).all fun i => decide ((a.l.getD i zMk).l = (b.l.getD i zMk).l)
theorem samePhE_refl (a : VPh) : samePhE a a = true := by simp [samePhE]
theorem spE_no {a b : VPh} (k : Nat) (hk : k < 8) (h : ¬ (a.l.getD k zMk).l = (b.l.getD k zMk).l) : false = samePhE a b := by
  symm; rw [← Bool.not_eq_true]; unfold samePhE; rw [List.all_eq_true]; intro h9
  exact h (of_decide_eq_true (h9 k (by simp; omega)))
theorem spE_yes {a b : VPh} {k : Nat} (hk : ¬ k < 8) (h : ∀ i, i < k → (a.l.getD i zMk).l = (b.l.getD i zMk).l) : true = samePhE a b := by
  symm; unfold samePhE; rw [List.all_eq_true]; intro i hi
  exact decide_eq_true (h i (by simp at hi; omega))
end Go.W
