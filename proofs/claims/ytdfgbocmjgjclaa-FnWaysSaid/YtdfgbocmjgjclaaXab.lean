/- Several texts, one behind the other. -/
import Derived.Laws.CopyRow
import Derived.Test.YtdfgbocmjgjclaaXaa
/- More rules: records compared. -/
set_option linter.unusedVariables false
set_option linter.unusedSimpArgs false
namespace Go.Sx
open Go Go.RowKit
variable {C : Cx} {env env' : Env} {m m' : List Ent} {o : Oper}
/-- The model finds x and y equal (b = true), or not. -/
def EqOk (P : Program) (d : Nat) (T : TypeId) (x y : Value) (b : Bool) : Prop := ∀ w, (Op.equalIn d T x y).run P w = .ok b w
def EqFs (P : Program) (d : Nat) (xs ys : List Value) (fs : List Field) (b : Bool) : Prop := ∀ w, (Op.eqFields d xs.toArray ys.toArray fs).run P w = .ok b w
theorem EqOk.int {P : Program} {d : Nat} {T : TypeId} {k : IntKind} {p q : Int} (hT : P.underlying T = some (.int k)) : EqOk P (d + 1) T (.int k p) (.int k q) (decide (p = q)) := fun w => by
  rw [run_equalIn_int w d T k k p q hT]; congr 1
theorem EqOk.bool {P : Program} {d : Nat} {T : TypeId} {p q : Bool} (hT : P.underlying T = some .bool) : EqOk P (d + 1) T (.bool p) (.bool q) (p == q) := fun w => run_equalIn_bool' w d T p q hT
theorem EqOk.str {P : Program} {d : Nat} {T : TypeId} {p q : ByteArray} (hT : P.underlying T = some .string) : EqOk P (d + 1) T (.string p) (.string q) (p.toList == q.toList) := fun w => run_equalIn_string w d T p q hT
theorem EqOk.ints {P : Program} {d : Nat} {t e : TypeId} {k : IntKind} {n : Nat} {i : TypeInfo} (hu : P.underlying t = some (.array n e)) (hi : P.info? e = some i) (hs : i.size = 1) (he : P.underlying e = some (.int k)) (xs ys : List Int) (hx : xs.length = n) (hy : ys.length = n) : EqOk P (d + 1 + 1) t (.agg (xs.flatMap (eI k)).toArray) (.agg (ys.flatMap (eI k)).toArray) (decide (xs = ys)) := fun w => by
  rw [run_equalIn_array w (d + 1) _ _ hu hi, show P.cellsOf e = 1 by simp [Program.cellsOf, hi, hs], List.range_eq_range']
  have := eqItems_ints he d xs ys (by omega) w n 0 (by omega)
  simpa using this
theorem EqOk.struct {P : Program} {d : Nat} {t : TypeId} {fs : Array Field} {fl : List Field} {xs ys : List Value} {b : Bool} (hu : P.underlying t = some (.struct fs)) (hfl : fs.toList = fl) (hp : P.stoodInHeld t = false) (h : EqFs P d xs ys fl b) : EqOk P (d + 1) t (.agg xs.toArray) (.agg ys.toArray) b := fun w => by
  have e : P.fieldsOf t = fs := by simp [Program.fieldsOf, hu]
  rw [run_equalIn_struct w d t _ _ (by rw [e]; exact hu) hp, e, hfl]
  exact h w
theorem EqFs.nil {P : Program} {d : Nat} {xs ys : List Value} : EqFs P d xs ys [] true := fun w => by simp [Op.eqFields]
theorem EqFs.step {P : Program} {d : Nat} {xs ys : List Value} {f : Field} {fs : List Field} {x y : Value} {b b' : Bool} (hn : (f.name != "_") = true) (px : ∀ w, (Go.part f.type xs.toArray f.offset).run P w = .ok x w) (py : ∀ w, (Go.part f.type ys.toArray f.offset).run P w = .ok y w) (he : EqOk P d f.type x y b) (h : EqFs P d xs ys fs b') : EqFs P d xs ys (f :: fs) (b && b') := fun w => by
  have hn' : f.name ≠ "_" := by simpa using hn
  simp only [Op.eqFields, hn', ne_eq, not_false_eq_true, if_true, Sem.run_bind, px w, py w, Result.andThen_ok, he w]
  cases b with
  | true => simp only [Bool.not_true, Bool.false_eq_true, if_false, Bool.true_and]; exact h w
  | false => simp
theorem EqFs.one {P : Program} {d : Nat} {xs ys : List Value} {f : Field} {fs : List Field} {x y : Value} {b b' : Bool} {dd : TypeDesc} (hn : (f.name != "_") = true) (hT : P.underlying f.type = some dd) (hd : aggD dd = false) (hx : xs[f.offset]? = some x) (hy : ys[f.offset]? = some y) (he : EqOk P d f.type x y b) (h : EqFs P d xs ys fs b') : EqFs P d xs ys (f :: fs) (b && b') :=
  EqFs.step hn (fun w => run_part1 hT hd (by simpa using hx) w) (fun w => run_part1 hT hd (by simpa using hy) w) he h
theorem EqFs.many {P : Program} {d : Nat} {xs ys : List Value} {f : Field} {fs : List Field} {cx cy : List Value} {b b' : Bool} {dd : TypeDesc} {n : Nat} (hn : (f.name != "_") = true) (hT : P.underlying f.type = some dd) (hd : aggD dd = true) (hs : (P.info? f.type).map (·.size) = some n) (hx : (xs.drop f.offset).take n = cx) (hy : (ys.drop f.offset).take n = cy) (he : EqOk P d f.type (.agg cx.toArray) (.agg cy.toArray) b) (h : EqFs P d xs ys fs b') : EqFs P d xs ys (f :: fs) (b && b') :=
  EqFs.step hn (fun w => by rw [run_partN hT hd hs w, hx]) (fun w => by rw [run_partN hT hd hs w, hy]) he h
theorem EqOk.as {P : Program} {d : Nat} {T : TypeId} {x y : Value} {b b' : Bool} (h : EqOk P d T x y b) (e : b = b') : EqOk P d T x y b' := e ▸ h
theorem fr_eql_rec {T x y T' b} {xs ys : List Value} (hq : EqOk C.P 10000 T (.agg xs.toArray) (.agg ys.toArray) b) (ho : o.op = .binOp .eql T x y T') (hx : ev env x = some (.agg xs.toArray)) (hy : ev env y = some (.agg ys.toArray)) (hg : C.P.eqGuardType C.P.depth T = false) : Free C o env m (.bool b) := by
  unfold Free
  intro a w hr _
  have h : (binOp .eql T (.agg xs.toArray) (.agg ys.toArray)).run C.P w = .ok (.bool b) w := by rw [run_eql_struct]; rw [hq w]; rfl
  simp only [execOp, ho, hr.ev hx, hr.ev hy, Sem.run_bind, guard_agg _ _ _ _ _ _ hg, Result.andThen_ok, h]; rfl
theorem fr_neq_rec {T x y T' b} {xs ys : List Value} (hq : EqOk C.P 10000 T (.agg xs.toArray) (.agg ys.toArray) b) (ho : o.op = .binOp .neq T x y T') (hx : ev env x = some (.agg xs.toArray)) (hy : ev env y = some (.agg ys.toArray)) (hg : C.P.eqGuardType C.P.depth T = false) : Free C o env m (.bool (!b)) := by
  unfold Free
  intro a w hr _
  have h : (binOp .neq T (.agg xs.toArray) (.agg ys.toArray)).run C.P w = .ok (.bool (!b)) w := by rw [run_neq_struct]; rw [hq w]; rfl
  simp only [execOp, ho, hr.ev hx, hr.ev hy, Sem.run_bind, guard_agg _ _ _ _ _ _ hg, Result.andThen_ok, h]; rfl
end Go.Sx
namespace Go.Sx
open Go Go.RowKit
variable {C : Cx} {env env' : Env} {m m' : List Ent} {Q Q' : Post}
/-! ### Loops in which a slice grows -/
structure HandA (V : Nat → Option Addr → Nat → Env) (Kp : Env) (M : Nat → Option Addr → Nat → List Ent) (Mk : List Ent) (I : Nat → Prop) (μ : Nat → Nat) (k : Nat) (A : Option Addr) (c : Nat) (env' : Env) (m' : List Ent) : Prop where
  out : Hand (X := Nat × Option Addr × Nat) (fun x => V x.1 x.2.1 x.2.2) Kp (fun x => M x.1 x.2.1 x.2.2) Mk (fun x => I x.1) (fun x => μ x.1) (k, A, c) env' m'
theorem HandA.of {V : Nat → Option Addr → Nat → Env} {Kp : Env} {M : Nat → Option Addr → Nat → List Ent} {Mk : List Ent} {I : Nat → Prop} {μ : Nat → Nat} {k : Nat} {A : Option Addr} {c : Nat} (k' : Nat) (A' : Option Addr) (c' : Nat) (t : Nat) (is : List Nat) (hV : Agree (V k' A' c') env') (hK : Agree Kp env') (hM : pickT m' t is = some (M k' A' c' ++ Mk)) (hf : freshT t is = true) (hI : I k') (hlt : μ k' < μ k) : HandA V Kp M Mk I μ k A c env' m' :=
  ⟨Hand.mk (k', A', c') t is hV hK hM hf hI hlt⟩
theorem Ex.loopA {c : Code} (V : Nat → Option Addr → Nat → Env) (M : Nat → Option Addr → Nat → List Ent) (I : Nat → Prop) (μ : Nat → Nat) (k0 : Nat) (A0 : Option Addr) (c0 : Nat) (Kp : Env) (Mk : List Ent) (t : Nat) (is : List Nat) (hV : Agree (V k0 A0 c0) env) (hK : Agree Kp env) (hM : pickT m t is = some (M k0 A0 c0 ++ Mk)) (hf : freshT t is = true) (h0 : I k0)
    (hr : ∀ k A cc, I k → Ex C c (V k A cc ++ Kp) (M k A cc ++ Mk) (Sq (HandA V Kp M Mk I μ k A cc) Q)) : Ex C (.loop c) env m Q :=
  Ex.loopK (X := Nat × Option Addr × Nat) (fun x => V x.1 x.2.1 x.2.2) (fun x => M x.1 x.2.1 x.2.2) (fun x => I x.1) (fun x => μ x.1) (k0, A0, c0) Kp Mk t is hV hK hM hf h0 (fun x hI => (hr x.1 x.2.1 x.2.2 hI).mono (fun e env m h => by
    cases e with
    | normal => exact h.out
    | exit k => exact h
    | goto k => exact h
    | ret => exact h
    | panic k => exact h
    | outgrown => exact h))
structure HandB (V : Nat → Option Addr → Nat → Option Addr → Nat → Env) (Kp : Env) (M : Nat → Option Addr → Nat → Option Addr → Nat → List Ent) (Mk : List Ent) (I : Nat → Prop) (μ : Nat → Nat) (k : Nat) (A : Option Addr) (c : Nat) (A2 : Option Addr) (c2 : Nat) (env' : Env) (m' : List Ent) : Prop where
  out : Hand (X := Nat × Option Addr × Nat × Option Addr × Nat) (fun x => V x.1 x.2.1 x.2.2.1 x.2.2.2.1 x.2.2.2.2) Kp (fun x => M x.1 x.2.1 x.2.2.1 x.2.2.2.1 x.2.2.2.2) Mk (fun x => I x.1) (fun x => μ x.1) (k, A, c, A2, c2) env' m'
theorem HandB.of {V : Nat → Option Addr → Nat → Option Addr → Nat → Env} {Kp : Env} {M : Nat → Option Addr → Nat → Option Addr → Nat → List Ent} {Mk : List Ent} {I : Nat → Prop} {μ : Nat → Nat} {k : Nat} {A : Option Addr} {c : Nat} {A2 : Option Addr} {c2 : Nat} (k' : Nat) (A' : Option Addr) (c' : Nat) (A2' : Option Addr) (c2' : Nat) (t : Nat) (is : List Nat) (hV : Agree (V k' A' c' A2' c2') env') (hK : Agree Kp env') (hM : pickT m' t is = some (M k' A' c' A2' c2' ++ Mk)) (hf : freshT t is = true) (hI : I k') (hlt : μ k' < μ k) : HandB V Kp M Mk I μ k A c A2 c2 env' m' :=
  ⟨Hand.mk (k', A', c', A2', c2') t is hV hK hM hf hI hlt⟩
theorem Ex.loopB {c : Code} (V : Nat → Option Addr → Nat → Option Addr → Nat → Env) (M : Nat → Option Addr → Nat → Option Addr → Nat → List Ent) (I : Nat → Prop) (μ : Nat → Nat) (k0 : Nat) (A0 : Option Addr) (c0 : Nat) (B0 : Option Addr) (e0 : Nat) (Kp : Env) (Mk : List Ent) (t : Nat) (is : List Nat) (hV : Agree (V k0 A0 c0 B0 e0) env) (hK : Agree Kp env) (hM : pickT m t is = some (M k0 A0 c0 B0 e0 ++ Mk)) (hf : freshT t is = true) (h0 : I k0)
    (hr : ∀ k A cc A2 c2, I k → Ex C c (V k A cc A2 c2 ++ Kp) (M k A cc A2 c2 ++ Mk) (Sq (HandB V Kp M Mk I μ k A cc A2 c2) Q)) : Ex C (.loop c) env m Q :=
  Ex.loopK (X := Nat × Option Addr × Nat × Option Addr × Nat) (fun x => V x.1 x.2.1 x.2.2.1 x.2.2.2.1 x.2.2.2.2) (fun x => M x.1 x.2.1 x.2.2.1 x.2.2.2.1 x.2.2.2.2) (fun x => I x.1) (fun x => μ x.1) (k0, A0, c0, B0, e0) Kp Mk t is hV hK hM hf h0 (fun x hI => (hr x.1 x.2.1 x.2.2.1 x.2.2.2.1 x.2.2.2.2 hI).mono (fun e env m h => by
    cases e with
    | normal => exact h.out
    | exit k => exact h
    | goto k => exact h
    | ret => exact h
    | panic k => exact h
    | outgrown => exact h))
end Go.Sx
namespace Go.Sx
open Go Go.RowKit
variable {C : Cx} {env env' : Env} {m m' : List Ent} {o : Oper} {K : Env → List Ent → Prop}
/-! ### Cells written one behind the other -/
theorem over_cell {M L : List Value} {p q : Nat} {v : Value} (hl : M.length = L.length) (hp : p < L.length) (hq : q = p) (hv : M[p]? = some v) : put (over M L p) q [v] = over M L (p + 1) := by
  subst hq
  have := over_put (f := fun v => [v]) (sz := 1) (fun _ => rfl) undef (d' := M) (d := L) hl hp (i := q) (by omega) (v := [v]) (by simp [List.getD, hv])
  simpa using this
theorem over_roomC {M L : List Value} {p q : Nat} {new : List Value} (hl : M.length = L.length) (hp : p < L.length) (hq : q = p) (hn : new.length = 1) : q + new.length ≤ (over M L p).length := by
  rw [over_len hl, hn]; omega
theorem op_storeRowF {i k n c : Nat} {A T E sz xs ys x y v new n'} (ho : o.op = .store T x y) (hx : ev env x = some (.pointer (offA A k))) (hy : ev env y = some v) (hc : v.cells = List.toArray new) (hone : new.all (·.oneCell') = true) (hs : (C.P.info? T).map (·.size) = some n') (hn : Nat.beq new.length n' = true) (hi : m[i]? = some (.row (.slice A n c) E sz n xs)) (hk : k + new.length ≤ xs.length) (hne : new ≠ []) (hd : o.dst = none) (hput : put xs k new = ys)
    (h : K env (m.set i (.row (.slice A n c) E sz n ys))) : Op1 C o env m K := by
  subst hput
  exact op_storeRow ho hx hy hc hone hs hn hi hk hne hd h
end Go.Sx
namespace Go.Sx
open Go Go.RowKit
variable {C : Cx} {env : Env} {m : List Ent} {o : Oper}
theorem fr_fieldAddrR (j : Nat) {S x} {k q : Nat} {fs : Array Field} {g : Field} {n' n c E sz : Nat} {A : Option Addr} {xs : List Value} (hm : m[j]? = some (.row (.slice A n c) E sz n xs)) (hn0 : 0 < n) (ho : o.op = .fieldAddr S x k) (hx : ev env x = some (.pointer (offA A q))) (hS : C.P.underlying S = some (.struct fs)) (hg : fs[k]? = some g) (hs : (C.P.info? g.type).map (·.size) = some n') (hn : Nat.beq n' 0 = false) : Free C o env m (.pointer (offA A (q + g.offset))) := by
  have key := fun hA => fr_fieldAddr_o (C := C) (m := m) (o := o) (f := g) ho hx hA hS hg hs hn
  unfold Free at key ⊢
  exact fun a w hr hw => key ((row_some hm w hw).2.2.2 hn0) a w hr hw
end Go.Sx
namespace Go.Sx
open Go Go.RowKit
variable {C : Cx} {env env' : Env} {m m' : List Ent} {l : List Oper} {o oi oj : Oper} {K : Env → List Ent → Prop} {S : List Ent} {fuel : Nat} {done : List Nat} {i j di dj : Nat} {T : TypeId} {cs : List Value}
/-! ### A variable made at any time beside a chain of calls -/
theorem ExD.swap {v p : Value} (hne : i ≠ j) (hd : Nat.beq di dj = false) (hp : m'.Perm m) (h : ExD C l S fuel (j :: i :: done) ((dj, p) :: (di, v) :: env) m K) : ExD C l S fuel (i :: j :: done) ((di, v) :: (dj, p) :: env) m' K := by
  unfold ExD at h ⊢
  rw [lst_two l.length i j done hne]
  intro a w hr hh
  refine h a w ⟨hr.def0, hr.size, fun t v ht => hr.at_ t v ?_⟩ (hh.perm hp)
  simp only [look] at ht ⊢
  cases e1 : Nat.beq dj t with
  | true =>
    have e := Nat.eq_of_beq_eq_true e1
    subst e
    simp only [hd, e1, cond_true, cond_false] at ht ⊢; exact ht
  | false =>
    rw [e1] at ht
    cases e2 : Nat.beq di t with
    | true => simp only [e2, e1, cond_true, cond_false] at ht ⊢; exact ht
    | false => simp only [e2, e1, cond_true, cond_false] at ht ⊢; exact ht
/-- The operation makes a variable, whatever stands. -/
def Alc (C : Cx) (o : Oper) (d : Nat) (T : TypeId) (cs : List Value) : Prop := ∀ env m K, (∀ b, K ((d, .pointer (some ⟨b, 0, none⟩)) :: env) (.blk b cs T :: m)) → Op1 C o env m K
theorem Alc.of {d : Nat} {z} (ho : o.op = .alloc T) (hz : (C.P.info? T).bind (·.zero) = some z) (hc : z.cells = List.toArray cs) (hd : o.dst = some d) (hlt : Nat.blt d C.n = true) : Alc C o d T cs := fun _ _ _ h => op_alloc ho hz hc hd hlt h
/-- What is left, where the variable of j is not made yet; and what is left where it is. -/
def ExDF (C : Cx) (l : List Oper) (S : List Ent) (fuel : Nat) (done : List Nat) (env : Env) (m : List Ent) (K : Env → List Ent → Prop) (j dj : Nat) (T : TypeId) (cs : List Value) : Prop :=
  ExD C l S (fuel + 1) done env m K ∧ ∀ b, ExD C l S fuel (j :: done) ((dj, .pointer (some ⟨b, 0, none⟩)) :: env) (.blk b cs T :: m) K
theorem ExDF.start (j : Nat) (_ : l[j]? = some oj) (_ : Alc C oj dj T cs) (h : ExDF C l S fuel done env m K j dj T cs) : ExD C l S (fuel + 1) done env m K := h.1
theorem ExDF.step {X : Type} {v : X → Value} {n : X → List Ent} {H : X → Prop} (hi : l[i]? = some oi) (hj : l[j]? = some oj) (h2 : readyOk l done [i, j] = true) (h4 : nextOk l (j :: done) i = true) (hij : Nat.beq i j = false)
    (hgi : wantB l env oi = some true) (hgj : wantB l env oj = some true) (hgi' : ∀ b, wantB l ((dj, .pointer (some ⟨b, 0, none⟩)) :: env) oi = some true) (hdd : Nat.beq di dj = false) (hS : S.Sublist m) (ha : Alc C oj dj T cs)
    (ci : ∀ K', (∀ x, H x → K' ((di, v x) :: env) (n x ++ m)) → Op1 C oi env m K')
    (ci' : ∀ b, ∀ K', (∀ x, H x → K' ((di, v x) :: (dj, .pointer (some ⟨b, 0, none⟩)) :: env) (n x ++ .blk b cs T :: m)) → Op1 C oi ((dj, .pointer (some ⟨b, 0, none⟩)) :: env) (.blk b cs T :: m) K')
    (h : ∀ x, H x → ExDF C l S fuel (i :: done) ((di, v x) :: env) (n x ++ m) K j dj T cs) : ExDF C l S (fuel + 1) done env m K j dj T cs := by
  have hne : i ≠ j := fun e => by subst e; simp at hij
  have h5 : ∀ b, ExD C l S (fuel + 1) (j :: done) ((dj, .pointer (some ⟨b, 0, none⟩)) :: env) (.blk b cs T :: m) K := fun b =>
    ExD.op hi h4 (hgi' b) (ci' b _ fun x hx => ⟨(hS.cons _).trans (List.sublist_append_right _ _), ExD.swap hne hdd List.perm_middle ((h x hx).2 b)⟩)
  refine ⟨ExD.ops h2 (by simp) fun k hk => ?_, h5⟩
  rcases List.mem_cons.1 hk with rfl | hk
  · exact ⟨oi, hi, hgi, ci _ fun x hx => ⟨hS.trans (List.sublist_append_right _ _), (h x hx).1⟩⟩
  · obtain rfl : k = j := by simpa using hk
    exact ⟨oj, hj, hgj, ha _ _ _ fun b => ⟨hS.cons _, h5 b⟩⟩
theorem ExDF.take {v : Value} (hi : l[i]? = some o) (ht : takeOk l done i = true) (ht' : takeOk l (j :: done) i = true) (hij : Nat.beq i j = false) (hf : Free C o env S v) (hf' : ∀ b, Free C o ((dj, .pointer (some ⟨b, 0, none⟩)) :: env) S v) (hS : S.Sublist m) (hg : wantB l env o = some true) (hg' : ∀ b, wantB l ((dj, .pointer (some ⟨b, 0, none⟩)) :: env) o = some true)
    (hd : o.dst = some di) (hlt : Nat.blt di C.n = true) (hdd : Nat.beq di dj = false) (h : ExDF C l S fuel (i :: done) ((di, v) :: env) m K j dj T cs) : ExDF C l S (fuel + 1) done env m K j dj T cs :=
  have hne : i ≠ j := fun e => by subst e; simp at hij
  ⟨ExD.take hi ht hf hS hg hd hlt h.1, fun b => ExD.take hi ht' (hf' b) (hS.cons _) (hg' b) hd hlt (ExD.swap hne hdd (List.Perm.refl _) (h.2 b))⟩
theorem ExDF.fin (hj : l[j]? = some oj) (hn : nextOk l done j = true) (hg : wantB l env oj = some true) (hS : S.Sublist m) (ha : Alc C oj dj T cs) (h : ∀ b, ExD C l S fuel (j :: done) ((dj, .pointer (some ⟨b, 0, none⟩)) :: env) (.blk b cs T :: m) K) : ExDF C l S fuel done env m K j dj T cs :=
  ⟨ExD.op hj hn hg (ha _ _ _ fun b => ⟨hS.cons _, h b⟩), h⟩
end Go.Sx
namespace Go.Sx
open Go Go.RowKit
theorem t4 {a b c d a' b' c' d' : Value} (h : a = a') (h1 : b = b') (h2 : c = c') (h3 : d = d') : tupleOf [a, b, c, d] = .tuple #[a', b', c', d'] := by rw [h, h1, h2, h3]; rfl
theorem t5 {a b c d e a' b' c' d' e' : Value} (h : a = a') (h1 : b = b') (h2 : c = c') (h3 : d = d') (h4 : e = e') : tupleOf [a, b, c, d, e] = .tuple #[a', b', c', d', e'] := by rw [h, h1, h2, h3, h4]; rfl
end Go.Sx
namespace Go.Sx
open Go Go.RowKit
theorem perm_4 {m : List Ent} {a b c d : Ent} (i j k l : Nat) (h1 : m[i]? = some a) (h2 : (m.eraseIdx i)[j]? = some b) (h3 : ((m.eraseIdx i).eraseIdx j)[k]? = some c) (h4 : (((m.eraseIdx i).eraseIdx j).eraseIdx k)[l]? = some d) : m.Perm ([a, b, c, d] ++ (((m.eraseIdx i).eraseIdx j).eraseIdx k).eraseIdx l) :=
  (perm_at h1).trans (List.Perm.cons a ((perm_at h2).trans (List.Perm.cons b ((perm_at h3).trans (List.Perm.cons c (perm_at h4))))))
end Go.Sx
namespace Go.Sx
open Go Go.RowKit
variable {C : Cx} {env : Env} {m : List Ent} {o : Oper}
theorem fr_indexAddrRo (j0 : Nat) {S x y E N} {q sz' n c E' sz : Nat} {kk : IntKind} {j : Int} {A : Option Addr} {xs : List Value} (hm : m[j0]? = some (.row (.slice A n c) E' sz n xs)) (hn0 : 0 < n) (ho : o.op = .indexAddr S x y) (hx : ev env x = some (.pointer (offA A q))) (hy : ev env y = some (.int kk j)) (hS : C.P.underlying S = some (.array N E)) (hs : (C.P.info? E).map (·.size) = some sz') (hj : 0 ≤ j ∧ j < (N : Nat)) : Free C o env m (.pointer (offA A (q + j.toNat * sz'))) := by
  have key := fun hA => fr_indexAddr_o (C := C) (m := m) (o := o) ho hx hA hy hS hs hj
  unfold Free at key ⊢
  exact fun a w hr hw => key ((row_some hm w hw).2.2.2 hn0) a w hr hw
end Go.Sx

/- Rows that are only read: laid on a pile, and taken off it. -/
namespace Go.Sx
open Go Go.RowKit
variable {C : Cx} {env : Env} {m m' : List Ent} {Q : Post} {l rest : List Oper} {K : Env → List Ent → Prop}
theorem Rw.apart_comm {r s : Rw} (h : r.apart s) : s.apart r := fun b hb hr => h b hr hb
theorem Holds.pile0 {base w0 w} (h : Holds base w0 m w) : Holds base w0 (.pile [] :: m) w := by
  refine ⟨h.below, h.le, fun e he => ?_, List.pairwise_cons.2 ⟨fun f hf b hb => ?_, h.apart⟩, h.others⟩
  · rcases List.mem_cons.1 he with rfl | he
    · exact ⟨fun r hr => (nomatch hr), List.Pairwise.nil⟩
    · exact h.all e he
  · obtain ⟨r, hr, _⟩ := hb; cases hr
theorem Holds.lay {base w0 w} {r : Rw} {xs ys : List Rw} (h : Holds base w0 (.row r.v r.E r.sz r.n r.xs :: .pile (xs ++ ys) :: m) w) : Holds base w0 (.pile (xs ++ r :: ys) :: m) w := by
  have hr := h.all _ (List.mem_cons_self ..)
  have hp := h.all (.pile (xs ++ ys)) (by simp)
  obtain ⟨ha1, ha⟩ := List.pairwise_cons.1 h.apart
  obtain ⟨ha2, ha3⟩ := List.pairwise_cons.1 ha
  refine ⟨h.below, h.le, fun e he => ?_, List.pairwise_cons.2 ⟨fun f hf b hb => ?_, ha3⟩, h.others⟩
  · rcases List.mem_cons.1 he with rfl | he
    · refine ⟨fun s hs => ?_, ?_⟩
      · rcases List.mem_append.1 hs with hs | hs
        · exact hp.1 s (List.mem_append.2 (.inl hs))
        · rcases List.mem_cons.1 hs with rfl | hs
          · exact hr
          · exact hp.1 s (List.mem_append.2 (.inr hs))
      · refine (List.perm_middle.pairwise_iff fun h => Rw.apart_comm h).2 (List.pairwise_cons.2 ⟨fun s hs b hb hb2 => ?_, hp.2⟩)
        exact ha1 (.pile (xs ++ ys)) (by simp) b hb ⟨s, hs, hb2⟩
    · exact h.all e (by simp [he])
  · obtain ⟨s, hs, hb⟩ := hb
    rcases List.mem_append.1 hs with hs | hs
    · exact ha2 f hf b ⟨s, List.mem_append.2 (.inl hs), hb⟩
    · rcases List.mem_cons.1 hs with rfl | hs
      · exact ha1 f (by simp [hf]) b hb
      · exact ha2 f hf b ⟨s, List.mem_append.2 (.inr hs), hb⟩
theorem Holds.lift {base w0 w} {r : Rw} {xs ys : List Rw} (h : Holds base w0 (.pile (xs ++ r :: ys) :: m) w) : Holds base w0 (.row r.v r.E r.sz r.n r.xs :: .pile (xs ++ ys) :: m) w := by
  have hp := h.all (.pile (xs ++ r :: ys)) (by simp)
  obtain ⟨ha1, ha⟩ := List.pairwise_cons.1 h.apart
  obtain ⟨hq1, hq2⟩ := List.pairwise_cons.1 ((List.perm_middle.pairwise_iff fun h => Rw.apart_comm h).1 hp.2)
  have hin : ∀ s, s ∈ xs ++ ys → s ∈ xs ++ r :: ys := fun s hs => by
    rcases List.mem_append.1 hs with hs | hs
    · exact List.mem_append.2 (.inl hs)
    · exact List.mem_append.2 (.inr (List.mem_cons_of_mem _ hs))
  have hr : r ∈ xs ++ r :: ys := List.mem_append.2 (.inr (List.mem_cons_self ..))
  refine ⟨h.below, h.le, fun e he => ?_, List.pairwise_cons.2 ⟨fun f hf b hb => ?_, List.pairwise_cons.2 ⟨fun f hf b hb => ?_, ha⟩⟩, h.others⟩
  · rcases List.mem_cons.1 he with rfl | he
    · exact hp.1 r hr
    · rcases List.mem_cons.1 he with rfl | he
      · exact ⟨fun s hs => hp.1 s (hin s hs), hq2⟩
      · exact h.all e (by simp [he])
  · rcases List.mem_cons.1 hf with rfl | hf
    · rintro ⟨s, hs, hb2⟩
      exact hq1 s hs b hb hb2
    · exact ha1 f hf b ⟨r, hr, hb⟩
  · obtain ⟨s, hs, hb⟩ := hb
    exact ha1 f hf b ⟨s, hin s hs, hb⟩
theorem Ex.conv {c : Code} (hc : ∀ w, Holds C.base C.w0 m w → Holds C.base C.w0 m' w) (k : Ex C c env m' Q) : Ex C c env m Q := fun a w hr hh => k a w hr (hc w hh)
theorem ExL.conv (hc : ∀ w, Holds C.base C.w0 m w → Holds C.base C.w0 m' w) (k : ExL C l rest env m' K) : ExL C l rest env m K := fun a w hr hh => k a w hr (hc w hh)
theorem ExD.conv {S fuel done} (hc : ∀ w, Holds C.base C.w0 m w → Holds C.base C.w0 m' w) (k : ExD C l S fuel done env m' K) : ExD C l S fuel done env m K := fun a w hr hh => k a w hr (hc w hh)
/-- An empty pile. -/
theorem Ex.pile0 {c : Code} (k : Ex C c env (.pile [] :: m) Q) : Ex C c env m Q := Ex.conv (fun _ h => h.pile0) k
theorem ExL.pile0 (k : ExL C l rest env (.pile [] :: m) K) : ExL C l rest env m K := ExL.conv (fun _ h => h.pile0) k
theorem layHolds {F : List Ent} {v E sz n cs xs ys} (hp : m.Perm (.row v E sz n cs :: .pile (xs ++ ys) :: F)) : ∀ w, Holds C.base C.w0 m w → Holds C.base C.w0 (.pile (xs ++ ⟨v, E, sz, n, cs⟩ :: ys) :: F) w :=
  fun _ h => Holds.lay (r := ⟨v, E, sz, n, cs⟩) (h.perm hp)
theorem liftHolds {F : List Ent} {r : Rw} {xs ys} (hp : m.Perm (.pile (xs ++ r :: ys) :: F)) : ∀ w, Holds C.base C.w0 m w → Holds C.base C.w0 (.row r.v r.E r.sz r.n r.xs :: .pile (xs ++ ys) :: F) w :=
  fun _ h => Holds.lift (h.perm hp)
theorem Reads.pile {i : Nat} {rs : List Rw} {A n c E sz cs} (hi : m[i]? = some (.pile rs)) (hr : (⟨.slice A n c, E, sz, n, cs⟩ : Rw) ∈ rs) : Reads C m A cs := by
  have h : ∀ w, Holds C.base C.w0 m w → Rd w A cs := fun w hw => by
    have h1 := hw.all _ (List.mem_of_getElem? hi)
    have h2 : Ent.holds C.base w (.row (.slice A n c) E sz n cs) := h1.1 _ hr
    have h3 : Holds C.base C.w0 [.row (.slice A n c) E sz n cs] w := ⟨hw.below, hw.le, fun e he => by simp at he; subst he; exact h2, by simp, hw.others⟩
    have h4 : Reads C [.row (.slice A n c) E sz n cs] A cs := Reads.row (i := 0) rfl
    unfold Reads at h4
    exact h4 w h3
  unfold Reads
  exact h
end Go.Sx
namespace Go.Sx
open Go Go.RowKit
variable {C : Cx} {env : Env} {m : List Ent} {l : List Oper} {K : Env → List Ent → Prop} {S : List Ent} {fuel i j di dj Ti Tj : Nat} {done : List Nat} {oi oj : Oper} {ci cj : List Value}
/-- Two variables that may be made in either order. -/
theorem ExD.alloc2 (hi : l[i]? = some oi) (hj : l[j]? = some oj) (h2 : readyOk l done [i, j] = true) (h3 : nextOk l (i :: done) j = true) (h4 : nextOk l (j :: done) i = true) (hij : Nat.beq i j = false) (hdd : Nat.beq di dj = false)
    (hgi : wantB l env oi = some true) (hgj : wantB l env oj = some true) (hgi' : ∀ b, wantB l ((dj, .pointer (some ⟨b, 0, none⟩)) :: env) oi = some true) (hgj' : ∀ b, wantB l ((di, .pointer (some ⟨b, 0, none⟩)) :: env) oj = some true) (hS : S.Sublist m) (hai : Alc C oi di Ti ci) (haj : Alc C oj dj Tj cj)
    (h : ∀ bi bj, ExD C l S fuel (j :: i :: done) ((dj, .pointer (some ⟨bj, 0, none⟩)) :: (di, .pointer (some ⟨bi, 0, none⟩)) :: env) (.blk bj cj Tj :: .blk bi ci Ti :: m) K) : ExD C l S (fuel + 1 + 1) done env m K := by
  have hne : i ≠ j := fun e => by subst e; simp at hij
  have hne' : j ≠ i := fun e => hne e.symm
  have hdd' : Nat.beq dj di = false := by
    cases e : Nat.beq dj di with
    | false => rfl
    | true => rw [Nat.eq_of_beq_eq_true e] at hdd; simp at hdd
  refine ExD.ops h2 (by simp) fun k hk => ?_
  rcases List.mem_cons.1 hk with rfl | hk
  · exact ⟨oi, hi, hgi, hai _ _ _ fun bi => ⟨hS.cons _, ExD.op hj h3 (hgj' bi) (haj _ _ _ fun bj => ⟨(hS.cons _).cons _, h bi bj⟩)⟩⟩
  · obtain rfl : k = j := by simpa using hk
    exact ⟨oj, hj, hgj, haj _ _ _ fun bj => ⟨hS.cons _, ExD.op hi h4 (hgi' bj) (hai _ _ _ fun bi => ⟨(hS.cons _).cons _, ExD.swap hne hdd (List.Perm.swap _ _ _) (h bi bj)⟩)⟩⟩
end Go.Sx
namespace Go.Sx
open Go Go.RowKit
variable {C : Cx} {m : List Ent}
theorem layEnd {F : List Ent} {v E sz n cs xs} (hp : m.Perm (.row v E sz n cs :: .pile xs :: F)) : ∀ w, Holds C.base C.w0 m w → Holds C.base C.w0 (.pile (xs ++ [⟨v, E, sz, n, cs⟩]) :: F) w :=
  layHolds (ys := []) (by rw [List.append_nil]; exact hp)
theorem liftAt {F : List Ent} {r : Rw} {rs xs ys} (he : rs = xs ++ r :: ys) (hp : m.Perm (.pile rs :: F)) : ∀ w, Holds C.base C.w0 m w → Holds C.base C.w0 (.row r.v r.E r.sz r.n r.xs :: .pile (xs ++ ys) :: F) w := by
  subst he; exact liftHolds hp
end Go.Sx
namespace Go.Sx
open Go Go.RowKit
variable {C : Cx} {env : Env} {m : List Ent} {o : Oper}
theorem fr_shr40 {T x y T' p} (ho : o.op = .binOp .shr T x y T') (hx : ev env x = some (.int .u64 p)) (hy : ev env y = some (.int .u64 40)) : Free C o env m (.int .u64 (p / 1099511627776)) := by
  have := fr_shr (C := C) (m := m) ho hx hy (by omega)
  rwa [show (2 : Int) ^ min (40 : Int).toNat IntKind.u64.bits = 1099511627776 from rfl] at this
theorem wrapu_bd (e : Int) : 0 ≤ IntKind.u64.wrap e ∧ IntKind.u64.wrap e ≤ 18446744073709551615 := by rw [IntKind.wrap_u64]; omega
theorem fr_and255w {T x y T' e} (ho : o.op = .binOp .and T x y T') (hx : ev env x = some (.int .u64 (IntKind.u64.wrap e / 1099511627776))) (hy : ev env y = some (.int .u64 255)) : Free C o env m (.int .u64 (IntKind.u64.wrap e / 1099511627776 % 256)) := by
  have := fr_bits (C := C) (m := m) ho hx hy (.inl rfl)
  have hw := wrapu_bd e
  rwa [show bits .and .u64 (IntKind.u64.wrap e / 1099511627776) 255 = IntKind.u64.wrap e / 1099511627776 % 256 from bits_mask .u64 63 (by decide) (fun n h0 h1 => by rw [IntKind.wrap_u64]; omega) 8 (by decide) _ (by omega) (by omega)] at this
end Go.Sx
namespace Go.Sx
open Go Go.RowKit
variable {C : Cx} {env : Env} {m : List Ent} {l : List Oper} {K : Env → List Ent → Prop} {S : List Ent} {fuel i j di dj : Nat} {done : List Nat} {oi oj : Oper} {vi : Value}
/-- A free operation and a call, in either order. -/
theorem ExD.freeCall {X : Type} {v : X → Value} {n : X → List Ent} {H : X → Prop} (hi : l[i]? = some oi) (hj : l[j]? = some oj) (h2 : readyOk l done [i, j] = true ∨ readyOk l done [j, i] = true) (h3 : nextOk l (i :: done) j = true) (h4 : nextOk l (j :: done) i = true) (hij : Nat.beq i j = false) (hdd : Nat.beq di dj = false)
    (hgi : wantB l env oi = some true) (hgj : wantB l env oj = some true) (hgi' : ∀ x, wantB l ((dj, v x) :: env) oi = some true) (hgj' : wantB l ((di, vi) :: env) oj = some true) (hdi : oi.dst = some di) (hli : Nat.blt di C.n = true) (hS : S.Sublist m)
    (fi : Free C oi env m vi)
    (cj : ∀ K', (∀ x, H x → K' ((dj, v x) :: env) (n x)) → Op1 C oj env m K')
    (cj' : ∀ K', (∀ x, H x → K' ((dj, v x) :: (di, vi) :: env) (n x)) → Op1 C oj ((di, vi) :: env) m K')
    (hS' : ∀ x, S.Sublist (n x)) (fi' : ∀ x, H x → Free C oi ((dj, v x) :: env) (n x) vi)
    (h : ∀ x, H x → ExD C l S fuel (j :: i :: done) ((dj, v x) :: (di, vi) :: env) (n x) K) : ExD C l S (fuel + 1 + 1) done env m K := by
  have hne : i ≠ j := fun e => by subst e; simp at hij
  have key : ∀ k, k = i ∨ k = j → ∃ o, l[k]? = some o ∧ wantB l env o = some true ∧ Op1 C o env m (fun env m => S.Sublist m ∧ ExD C l S (fuel + 1) (k :: done) env m K) := by
    rintro k (rfl | rfl)
    · exact ⟨oi, hi, hgi, Op1.of_free fi hdi hli ⟨hS, ExD.op hj h3 hgj' (cj' _ fun x hx => ⟨hS' x, h x hx⟩)⟩⟩
    · exact ⟨oj, hj, hgj, cj _ fun x hx => ⟨hS' x, ExD.op hi h4 (hgi' x) (Op1.of_free (fi' x hx) hdi hli ⟨hS' x, ExD.swap hne hdd (List.Perm.refl _) (h x hx)⟩)⟩⟩
  rcases h2 with h2 | h2
  · exact ExD.ops h2 (by simp) fun k hk => key k (by simpa using hk)
  · exact ExD.ops h2 (by simp) fun k hk => key k (by have := hk; simp at this; omega)
end Go.Sx
namespace Go.Sx
open Go Go.RowKit
variable {C : Cx} {env env' : Env} {m : List Ent} {l : List Oper} {K : Env → List Ent → Prop} {S : List Ent} {fuel i j k di dj dk : Nat} {done done' : List Nat} {oi oj ok_ : Oper} {vi : Value}
theorem lst_perm {n : Nat} {d d' : List Nat} (h : d.Perm d') : lst n d = lst n d' := by
  unfold lst
  refine h.foldr_eq' (fun x _ y _ z => ?_) _
  by_cases e : x = y
  · subst e; rfl
  · exact (Array.setIfInBounds_comm _ _ e)
theorem ExD.rep (hd : done.Perm done') (he : ∀ t v, look env' t = some v → look env t = some v) (h : ExD C l S fuel done' env' m K) : ExD C l S fuel done env m K := by
  unfold ExD at h ⊢
  rw [lst_perm hd]
  intro a w hr hh
  exact h a w ⟨hr.def0, hr.size, fun t v ht => hr.at_ t v (he t v ht)⟩ hh
theorem look_swap {a b : Nat} {x y : Value} {e : Env} (h : Nat.beq a b = false) (t : Nat) : look ((a, x) :: (b, y) :: e) t = look ((b, y) :: (a, x) :: e) t := by
  simp only [look]
  cases e1 : Nat.beq a t with
  | true =>
    have := Nat.eq_of_beq_eq_true e1
    subst this
    have : Nat.beq b a = false := by
      cases e2 : Nat.beq b a with
      | false => rfl
      | true => rw [Nat.eq_of_beq_eq_true e2] at h; simp at h
    rw [this]; rfl
  | false => rfl
theorem look_cons {a : Nat} {x : Value} {e e' : Env} {t : Nat} (h : look e t = look e' t) : look ((a, x) :: e) t = look ((a, x) :: e') t := by simp only [look, h]
/-- The same, where an operation on what the call hands back may be taken before the free one. -/
theorem ExD.freeCall1 {X : Type} {v vk : X → Value} {n : X → List Ent} {H : X → Prop} (hi : l[i]? = some oi) (hj : l[j]? = some oj) (hk : l[k]? = some ok_) (h2 : readyOk l done [i, j] = true ∨ readyOk l done [j, i] = true) (h3 : nextOk l (i :: done) j = true) (h4 : nextOk l (k :: j :: done) i = true) (h5 : takeOk l (j :: done) k = true) (h6 : takeOk l (j :: i :: done) k = true) (hij : Nat.beq i j = false) (hdd : Nat.beq di dj = false) (hik : Nat.beq di dk = false)
    (hgi : wantB l env oi = some true) (hgj : wantB l env oj = some true) (hgi' : ∀ x, wantB l ((dk, vk x) :: (dj, v x) :: env) oi = some true) (hgj' : wantB l ((di, vi) :: env) oj = some true) (hgk : ∀ x, wantB l ((dj, v x) :: env) ok_ = some true) (hgk' : ∀ x, wantB l ((dj, v x) :: (di, vi) :: env) ok_ = some true) (hdi : oi.dst = some di) (hli : Nat.blt di C.n = true) (hdk : ok_.dst = some dk) (hlk : Nat.blt dk C.n = true) (hS : S.Sublist m)
    (fi : Free C oi env m vi)
    (cj : ∀ K', (∀ x, H x → K' ((dj, v x) :: env) (n x)) → Op1 C oj env m K')
    (cj' : ∀ K', (∀ x, H x → K' ((dj, v x) :: (di, vi) :: env) (n x)) → Op1 C oj ((di, vi) :: env) m K')
    (hS' : ∀ x, S.Sublist (n x)) (fk : ∀ x, H x → Free C ok_ ((dj, v x) :: env) S (vk x)) (fk' : ∀ x, H x → Free C ok_ ((dj, v x) :: (di, vi) :: env) S (vk x)) (fi' : ∀ x, H x → Free C oi ((dk, vk x) :: (dj, v x) :: env) (n x) vi)
    (h : ∀ x, H x → ExD C l S fuel (k :: j :: i :: done) ((dk, vk x) :: (dj, v x) :: (di, vi) :: env) (n x) K) : ExD C l S (fuel + 1 + 1 + 1) done env m K := by
  have key : ∀ q, q = i ∨ q = j → ∃ o, l[q]? = some o ∧ wantB l env o = some true ∧ Op1 C o env m (fun env m => S.Sublist m ∧ ExD C l S (fuel + 1 + 1) (q :: done) env m K) := by
    rintro q (rfl | rfl)
    · exact ⟨oi, hi, hgi, Op1.of_free fi hdi hli ⟨hS, ExD.op hj h3 hgj' (cj' _ fun x hx => ⟨hS' x, ExD.take hk h6 (fk' x hx) (hS' x) (hgk' x) hdk hlk (h x hx)⟩)⟩⟩
    · refine ⟨oj, hj, hgj, cj _ fun x hx => ⟨hS' x, ExD.take hk h5 (fk x hx) (hS' x) (hgk x) hdk hlk (ExD.op hi h4 (hgi' x) (Op1.of_free (fi' x hx) hdi hli ⟨hS' x, ?_⟩))⟩⟩
      refine ExD.rep ?_ (fun t u ht => ?_) (h x hx)
      · exact (List.Perm.swap _ _ _).trans (List.Perm.cons _ (List.Perm.swap _ _ _))
      · rw [look_swap hik, look_cons (look_swap hdd t)]; exact ht
  rcases h2 with h2 | h2
  · exact ExD.ops h2 (by simp) fun q hq => key q (by simpa using hq)
  · exact ExD.ops h2 (by simp) fun q hq => key q (by have := hq; simp at this; omega)
end Go.Sx

/- How many digits are marked; counts of values in photos. -/
set_option linter.unusedVariables false
set_option linter.unusedSimpArgs false
namespace Go.W
open Go Go.Sx
/-! how many bits a number has -/
def popK (x k : Nat) : Nat := ((List.range k).filter fun i => x.testBit i).length
theorem popK_0 (x : Nat) : popK x 0 = 0 := rfl
theorem popK_succ (x k : Nat) : popK x (k + 1) = popK x k + x / 2 ^ k % 2 := by
  unfold popK
  rw [List.range_succ, List.filter_append, List.length_append]
  congr 1
  rw [List.filter_cons, Nat.testBit_eq_decide_div_mod_eq]
  have h := Nat.mod_lt (x / 2 ^ k) (show 0 < 2 by omega)
  by_cases h1 : x / 2 ^ k % 2 = 1
  · simp [h1]
  · simp [h1]; omega
theorem popK_le (x : Nat) : ∀ k, popK x k ≤ k
  | 0 => Nat.le_refl _
  | k + 1 => by rw [popK_succ]; have := popK_le x k; have := Nat.mod_lt (x / 2 ^ k) (show 0 < 2 by omega); omega
theorem popK_hi {x k : Nat} (h : x / 2 ^ k = 0) : ∀ j, popK x (k + j) = popK x k
  | 0 => rfl
  | j + 1 => by
    rw [← Nat.add_assoc, popK_succ, popK_hi h j]
    have : x / 2 ^ (k + j) = 0 := by rw [Nat.pow_add, ← Nat.div_div_eq_div_mul, h, Nat.zero_div]
    rw [this]; rfl
def popN : Nat → Nat → Nat
  | 0, _ => 0
  | f + 1, x => x % 2 + popN f (x / 2)
theorem popN_K : ∀ f x, popN f x = popK x f
  | 0, _ => rfl
  | f + 1, x => by
    rw [popN, popN_K f (x / 2)]
    unfold popK
    rw [List.range_succ_eq_map, List.filter_cons, List.filter_map, Nat.testBit_zero]
    have e : ((fun i => x.testBit i) ∘ Nat.succ) = fun i => (x / 2).testBit i := funext fun i => Nat.testBit_succ x i
    rw [e]
    have h := Nat.mod_lt x (show 0 < 2 by omega)
    by_cases h1 : x % 2 = 1
    · simp [h1]; omega
    · simp [h1]; omega
theorem popN_byte (f x : Nat) : popN (f + 8) x = popN 8 (x % 256) + popN f (x / 256) := by
  simp only [popN]
  have e : x / 2 / 2 / 2 / 2 / 2 / 2 / 2 / 2 = x / 256 := by omega
  rw [e]; omega
/-! the steps of OnesCount64, a byte at a time -/
def rep (m : Nat) : Nat → Nat
  | 0 => 0
  | n + 1 => m + 256 * rep m n
theorem and_split {a b m M : Nat} (ha : a < 256) (hm : m < 256) : (a + 256 * b) &&& (m + 256 * M) = (a &&& m) + 256 * (b &&& M) := by
  have h1 := Nat.and_mod_two_pow (a := a + 256 * b) (b := m + 256 * M) (n := 8)
  have h2 := Nat.and_div_two_pow (a := a + 256 * b) (b := m + 256 * M) (n := 8)
  rw [show (2 : Nat) ^ 8 = 256 from rfl] at h1 h2
  rw [show (a + 256 * b) % 256 = a by omega, show (m + 256 * M) % 256 = m by omega] at h1
  rw [show (a + 256 * b) / 256 = b by omega, show (m + 256 * M) / 256 = M by omega] at h2
  have h3 := Nat.mod_add_div ((a + 256 * b) &&& (m + 256 * M)) 256
  rw [h1, h2] at h3
  exact h3.symm
def po1 (n x : Nat) : Nat := (x / 2 &&& rep 85 n) + (x &&& rep 85 n)
def po2 (n x : Nat) : Nat := (x / 4 &&& rep 51 n) + (x &&& rep 51 n)
def po3 (n x : Nat) : Nat := (x / 16 + x) &&& rep 15 n
def pt1 (a : Nat) : Nat := (a / 2 &&& 85) + (a &&& 85)
def pt2 (a : Nat) : Nat := (a / 4 &&& 51) + (a &&& 51)
def pt3 (a : Nat) : Nat := (a / 16 + a) &&& 15
theorem m1_ok : ∀ a : Fin 256, ∀ c : Fin 2, (a.val / 2 + 128 * c.val) &&& 85 = a.val / 2 &&& 85 := by decide +kernel
theorem m2_ok : ∀ a : Fin 256, ∀ c : Fin 4, (a.val / 4 + 64 * c.val) &&& 51 = a.val / 4 &&& 51 := by decide +kernel
theorem m3_ok : ∀ a : Fin 256, ∀ c : Fin 16, (a.val / 16 + a.val + 16 * c.val) % 256 &&& 15 = (a.val / 16 + a.val) &&& 15 := by decide +kernel
theorem pt_ok : ∀ a : Fin 256, pt1 a.val < 256 ∧ pt2 a.val < 256 ∧ pt2 a.val % 16 ≤ 6 := by decide +kernel
theorem pt12_ok : ∀ a : Fin 256, pt2 (pt1 a.val) ≤ 68 ∧ pt3 (pt2 (pt1 a.val)) = popN 8 a.val ∧ popN 8 a.val ≤ 8 := by decide +kernel
theorem po1_split {n a b : Nat} (ha : a < 256) : po1 (n + 1) (a + 256 * b) = pt1 a + 256 * po1 n b := by
  unfold po1 pt1
  rw [show (a + 256 * b) / 2 = (a / 2 + 128 * (b % 2)) + 256 * (b / 2) by omega]
  simp only [rep]
  have h := m1_ok ⟨a, ha⟩ ⟨b % 2, by omega⟩
  simp only at h
  rw [and_split (by omega) (by omega), and_split ha (by omega), h]
  omega
theorem po2_split {n a b : Nat} (ha : a < 256) : po2 (n + 1) (a + 256 * b) = pt2 a + 256 * po2 n b := by
  unfold po2 pt2
  rw [show (a + 256 * b) / 4 = (a / 4 + 64 * (b % 4)) + 256 * (b / 4) by omega]
  simp only [rep]
  have h := m2_ok ⟨a, ha⟩ ⟨b % 4, by omega⟩
  simp only at h
  rw [and_split (by omega) (by omega), and_split ha (by omega), h]
  omega
theorem po3_split {n a b : Nat} (ha : a ≤ 68) (hb : b % 16 ≤ 6) : po3 (n + 1) (a + 256 * b) = pt3 a + 256 * po3 n b := by
  unfold po3 pt3
  rw [show (a + 256 * b) / 16 + (a + 256 * b) = (a / 16 + a + 16 * (b % 16)) + 256 * (b / 16 + b) by omega]
  simp only [rep]
  have h := m3_ok ⟨a, by omega⟩ ⟨b % 16, by omega⟩
  simp only at h
  rw [Nat.mod_eq_of_lt (by omega)] at h
  rw [and_split (by omega) (by omega), h]
theorem po_zero (x : Nat) : po1 0 x = 0 ∧ po2 0 x = 0 ∧ po3 0 x = 0 := by simp [po1, po2, po3, rep]
theorem po2_lo : ∀ n x, po2 n x % 16 ≤ 6
  | 0, x => by rw [(po_zero x).2.1]; omega
  | n + 1, x => by
    have e : x = x % 256 + 256 * (x / 256) := by omega
    rw [e, po2_split (by omega)]
    have := (pt_ok ⟨x % 256, by omega⟩).2.2
    simp only at this
    omega
theorem po_step (n x : Nat) : po3 (n + 1) (po2 (n + 1) (po1 (n + 1) x)) = popN 8 (x % 256) + 256 * po3 n (po2 n (po1 n (x / 256))) := by
  have e : x = x % 256 + 256 * (x / 256) := by omega
  have h := pt12_ok ⟨x % 256, by omega⟩
  have h2 := pt_ok ⟨x % 256, by omega⟩
  simp only at h h2
  conv => lhs; rw [e, po1_split (by omega), po2_split h2.1, po3_split h.1 (po2_lo _ _)]
  rw [h.2.1]
theorem sums8 {c0 c1 c2 c3 c4 c5 c6 c7 : Nat} (h0 : c0 ≤ 8) (h1 : c1 ≤ 8) (h2 : c2 ≤ 8) (h3 : c3 ≤ 8) (h4 : c4 ≤ 8) (h5 : c5 ≤ 8) (h6 : c6 ≤ 8) (h7 : c7 ≤ 8) : (let y := c0 + 256 * (c1 + 256 * (c2 + 256 * (c3 + 256 * (c4 + 256 * (c5 + 256 * (c6 + 256 * (c7 + 256 * 0))))))); let y1 := y + y / 2 ^ 8; let y2 := y1 + y1 / 2 ^ 16; let y3 := y2 + y2 / 2 ^ 32; y < 2 ^ 60 ∧ y1 < 2 ^ 61 ∧ y2 < 2 ^ 62 ∧ y3 < 2 ^ 63 ∧ y3 % 128 = c0 + (c1 + (c2 + (c3 + (c4 + (c5 + (c6 + (c7 + 0)))))))) := by
  intro y y1 y2 y3
  have hy : y = c0 + 256 * (c1 + 256 * (c2 + 256 * (c3 + 256 * (c4 + 256 * (c5 + 256 * (c6 + 256 * (c7 + 256 * 0))))))) := rfl
  have q1 : y1 = y + y / 2 ^ 8 := rfl
  have q2 : y2 = y1 + y1 / 2 ^ 16 := rfl
  have q3 : y3 = y2 + y2 / 2 ^ 32 := rfl
  clear_value y y1 y2 y3
  have a1 : y / 2 ^ 8 = c1 + 256 * (c2 + 256 * (c3 + 256 * (c4 + 256 * (c5 + 256 * (c6 + 256 * c7))))) := by omega
  obtain ⟨d0, hd0⟩ : ∃ d, d = c0 + c1 := ⟨_, rfl⟩
  obtain ⟨d1, hd1⟩ : ∃ d, d = c1 + c2 := ⟨_, rfl⟩
  obtain ⟨d2, hd2⟩ : ∃ d, d = c2 + c3 := ⟨_, rfl⟩
  obtain ⟨d3, hd3⟩ : ∃ d, d = c3 + c4 := ⟨_, rfl⟩
  obtain ⟨d4, hd4⟩ : ∃ d, d = c4 + c5 := ⟨_, rfl⟩
  obtain ⟨d5, hd5⟩ : ∃ d, d = c5 + c6 := ⟨_, rfl⟩
  obtain ⟨d6, hd6⟩ : ∃ d, d = c6 + c7 := ⟨_, rfl⟩
  have b1 : y1 = d0 + 256 * (d1 + 256 * (d2 + 256 * (d3 + 256 * (d4 + 256 * (d5 + 256 * (d6 + 256 * c7)))))) := by omega
  have k0 : d0 ≤ 16 ∧ d1 ≤ 16 ∧ d2 ≤ 16 ∧ d3 ≤ 16 ∧ d4 ≤ 16 ∧ d5 ≤ 16 ∧ d6 ≤ 16 := by omega
  have hsum : c0 + (c1 + (c2 + (c3 + (c4 + (c5 + (c6 + (c7 + 0))))))) = d0 + d2 + d4 + d6 := by omega
  rw [hsum]
  have y60 : y < 2 ^ 60 := by omega
  clear hy q1 a1 hd0 hd1 hd2 hd3 hd4 hd5 hd6 hsum
  have a2 : y1 / 2 ^ 16 = d2 + 256 * (d3 + 256 * (d4 + 256 * (d5 + 256 * (d6 + 256 * c7)))) := by omega
  obtain ⟨e0, he0⟩ : ∃ e, e = d0 + d2 := ⟨_, rfl⟩
  obtain ⟨e1, he1⟩ : ∃ e, e = d1 + d3 := ⟨_, rfl⟩
  obtain ⟨e2, he2⟩ : ∃ e, e = d2 + d4 := ⟨_, rfl⟩
  obtain ⟨e3, he3⟩ : ∃ e, e = d3 + d5 := ⟨_, rfl⟩
  obtain ⟨e4, he4⟩ : ∃ e, e = d4 + d6 := ⟨_, rfl⟩
  obtain ⟨e5, he5⟩ : ∃ e, e = d5 + c7 := ⟨_, rfl⟩
  have b2 : y2 = e0 + 256 * (e1 + 256 * (e2 + 256 * (e3 + 256 * (e4 + 256 * (e5 + 256 * (d6 + 256 * c7)))))) := by omega
  have k1 : e0 ≤ 32 ∧ e1 ≤ 32 ∧ e2 ≤ 32 ∧ e3 ≤ 32 ∧ e4 ≤ 32 ∧ e5 ≤ 32 := by omega
  have hsum : d0 + d2 + d4 + d6 = e0 + e4 := by omega
  rw [hsum]
  have y61 : y1 < 2 ^ 61 := by omega
  clear b1 q2 a2 he0 he1 he2 he3 he4 he5 hsum
  have a3 : y2 / 2 ^ 32 = e4 + 256 * (e5 + 256 * (d6 + 256 * c7)) := by omega
  refine ⟨y60, y61, by omega, by omega, by omega⟩
theorem sums_ok (x : Nat) (hx : x < 2 ^ 64) : (let y := po3 8 (po2 8 (po1 8 x)); let y1 := y + y / 2 ^ 8; let y2 := y1 + y1 / 2 ^ 16; let y3 := y2 + y2 / 2 ^ 32; y < 2 ^ 60 ∧ y1 < 2 ^ 61 ∧ y2 < 2 ^ 62 ∧ y3 < 2 ^ 63 ∧ y3 % 128 = popN 64 x) := by
  have hp := popN_byte
  have q : ∀ z : Nat, popN 8 (z % 256) ≤ 8 := fun z => (pt12_ok ⟨z % 256, by omega⟩).2.2
  have h0 := q x
  have h1 := q (x / 256)
  have h2 := q (x / 256 / 256)
  have h3 := q (x / 256 / 256 / 256)
  have h4 := q (x / 256 / 256 / 256 / 256)
  have h5 := q (x / 256 / 256 / 256 / 256 / 256)
  have h6 := q (x / 256 / 256 / 256 / 256 / 256 / 256)
  have h7 := q (x / 256 / 256 / 256 / 256 / 256 / 256 / 256)
  have e0 : popN 64 x = popN 8 (x % 256) + popN 56 (x / 256) := hp 56 x
  have e1 : popN 56 (x / 256) = popN 8 (x / 256 % 256) + popN 48 (x / 256 / 256) := hp 48 _
  have e2 : popN 48 (x / 256 / 256) = popN 8 (x / 256 / 256 % 256) + popN 40 (x / 256 / 256 / 256) := hp 40 _
  have e3 : popN 40 (x / 256 / 256 / 256) = popN 8 (x / 256 / 256 / 256 % 256) + popN 32 (x / 256 / 256 / 256 / 256) := hp 32 _
  have e4 : popN 32 (x / 256 / 256 / 256 / 256) = popN 8 (x / 256 / 256 / 256 / 256 % 256) + popN 24 (x / 256 / 256 / 256 / 256 / 256) := hp 24 _
  have e5 : popN 24 (x / 256 / 256 / 256 / 256 / 256) = popN 8 (x / 256 / 256 / 256 / 256 / 256 % 256) + popN 16 (x / 256 / 256 / 256 / 256 / 256 / 256) := hp 16 _
  have e6 : popN 16 (x / 256 / 256 / 256 / 256 / 256 / 256) = popN 8 (x / 256 / 256 / 256 / 256 / 256 / 256 % 256) + popN 8 (x / 256 / 256 / 256 / 256 / 256 / 256 / 256) := hp 8 _
  have e7 : popN 8 (x / 256 / 256 / 256 / 256 / 256 / 256 / 256) = popN 8 (x / 256 / 256 / 256 / 256 / 256 / 256 / 256 % 256) + popN 0 (x / 256 / 256 / 256 / 256 / 256 / 256 / 256 / 256) := hp 0 _
  rw [e0, e1, e2, e3, e4, e5, e6, e7, show popN 0 (x / 256 / 256 / 256 / 256 / 256 / 256 / 256 / 256) = 0 from rfl]
  simp only [po_step, (po_zero _).2.2]
  generalize popN 8 (x % 256) = c0 at *
  generalize popN 8 (x / 256 % 256) = c1 at *
  generalize popN 8 (x / 256 / 256 % 256) = c2 at *
  generalize popN 8 (x / 256 / 256 / 256 % 256) = c3 at *
  generalize popN 8 (x / 256 / 256 / 256 / 256 % 256) = c4 at *
  generalize popN 8 (x / 256 / 256 / 256 / 256 / 256 % 256) = c5 at *
  generalize popN 8 (x / 256 / 256 / 256 / 256 / 256 / 256 % 256) = c6 at *
  generalize popN 8 (x / 256 / 256 / 256 / 256 / 256 / 256 / 256 % 256) = c7 at *
  exact sums8 h0 h1 h2 h3 h4 h5 h6 h7
def popI (x : Int) : Int := (popK x.toNat 64 : Int)
theorem popI_bd (x : Int) : 0 ≤ popI x ∧ popI x ≤ 64 := by unfold popI; have := popK_le x.toNat 64; omega
theorem and_nat {a b : Nat} (ha : a < 2 ^ 64) (hb : b < 2 ^ 64) : bits .and .u64 (a : Int) (b : Int) = ((a &&& b : Nat) : Int) := (bits_nat .u64 64 (Nat.le_refl _) wrap_u64n a b ha hb).1
theorem sh_nat (a k : Nat) (q : Int) (hq : q = (k : Int)) (hk : k ≤ 64) : (a : Int) / 2 ^ min q.toNat IntKind.u64.bits = ((a / 2 ^ k : Nat) : Int) := by
  subst hq
  rw [Int.toNat_natCast, show min k IntKind.u64.bits = k from Nat.min_eq_left hk]
  push_cast; rfl
theorem wrap_nat {a : Nat} (ha : a < 2 ^ 64) : IntKind.u64.wrap (a : Int) = a := wrap_u64n _ (Int.natCast_nonneg _) (by exact_mod_cast ha)
theorem ones64 {x : Int} (hx : 0 ≤ x ∧ x < 18446744073709551616) : (
    let a := IntKind.u64.wrap (bits .and .u64 (x / 2 ^ min (1 : Int).toNat IntKind.u64.bits) 6148914691236517205 + bits .and .u64 x 6148914691236517205)
    let b := IntKind.u64.wrap (bits .and .u64 (a / 2 ^ min (2 : Int).toNat IntKind.u64.bits) 3689348814741910323 + bits .and .u64 a 3689348814741910323)
    let c := bits .and .u64 (IntKind.u64.wrap (b / 2 ^ min (4 : Int).toNat IntKind.u64.bits + b)) 1085102592571150095
    let d := IntKind.u64.wrap (c + c / 2 ^ min (8 : Int).toNat IntKind.u64.bits)
    let e := IntKind.u64.wrap (d + d / 2 ^ min (16 : Int).toNat IntKind.u64.bits)
    let f := IntKind.u64.wrap (e + e / 2 ^ min (32 : Int).toNat IntKind.u64.bits)
    0 ≤ f ∧ f ≤ 9223372036854775807 ∧ f % 128 = popI x) := by
  obtain ⟨n, rfl⟩ := Int.eq_ofNat_of_zero_le hx.1
  have hn : n < 2 ^ 64 := by have := hx.2; omega
  have hand : ∀ p q : Nat, p &&& q ≤ q := fun p q => Nat.and_le_right
  have hs := sums_ok n hn
  have k1 : (6148914691236517205 : Int) = ((rep 85 8 : Nat) : Int) := rfl
  have k2 : (3689348814741910323 : Int) = ((rep 51 8 : Nat) : Int) := rfl
  have k3 : (1085102592571150095 : Int) = ((rep 15 8 : Nat) : Int) := rfl
  have b1 : rep 85 8 = 6148914691236517205 := rfl
  have b2 : rep 51 8 = 3689348814741910323 := rfl
  have b3 : rep 15 8 = 1085102592571150095 := rfl
  have ha : po1 8 n < 2 ^ 64 := by
    unfold po1; have := hand (n / 2) (rep 85 8); have := hand n (rep 85 8); omega
  have hb : po2 8 (po1 8 n) < 2 ^ 63 := by
    unfold po2; have := hand (po1 8 n / 4) (rep 51 8); have := hand (po1 8 n) (rep 51 8); omega
  have e1 : IntKind.u64.wrap (bits .and .u64 ((n : Int) / 2 ^ min (1 : Int).toNat IntKind.u64.bits) 6148914691236517205 + bits .and .u64 n 6148914691236517205) = ((po1 8 n : Nat) : Int) := by
    rw [k1, sh_nat n 1 1 rfl (by omega), and_nat (by omega) (by omega), and_nat hn (by omega), ← Int.natCast_add, ← wrap_nat ha]; rfl
  have e2 : IntKind.u64.wrap (bits .and .u64 (((po1 8 n : Nat) : Int) / 2 ^ min (2 : Int).toNat IntKind.u64.bits) 3689348814741910323 + bits .and .u64 ((po1 8 n : Nat) : Int) 3689348814741910323) = ((po2 8 (po1 8 n) : Nat) : Int) := by
    rw [k2, sh_nat _ 2 2 rfl (by omega), and_nat (by omega) (by omega), and_nat ha (by omega), ← Int.natCast_add, ← wrap_nat (a := po2 8 (po1 8 n)) (by omega)]; rfl
  have e3 : bits .and .u64 (IntKind.u64.wrap (((po2 8 (po1 8 n) : Nat) : Int) / 2 ^ min (4 : Int).toNat IntKind.u64.bits + ((po2 8 (po1 8 n) : Nat) : Int))) 1085102592571150095 = ((po3 8 (po2 8 (po1 8 n)) : Nat) : Int) := by
    rw [k3, sh_nat _ 4 4 rfl (by omega), ← Int.natCast_add, wrap_nat (by omega), and_nat (by omega) (by omega)]; rfl
  simp only [] at hs
  obtain ⟨q0, q1, q2, q3, q4⟩ := hs
  simp only [e1, e2, e3]
  generalize po3 8 (po2 8 (po1 8 n)) = y at *
  rw [sh_nat _ 8 8 rfl (by omega), ← Int.natCast_add, wrap_nat (by omega)]
  rw [sh_nat _ 16 16 rfl (by omega), ← Int.natCast_add, wrap_nat (by omega)]
  rw [sh_nat _ 32 32 rfl (by omega), ← Int.natCast_add, wrap_nat (by omega)]
  unfold popI
  rw [Int.toNat_natCast, ← popN_K, ← q4]
  refine ⟨by omega, by omega, by omega⟩
/-! digits that are marked -/
def digM (m : VMk) : List Nat := (List.range 128).filter (hasM m)
def cntM (m : VMk) : Int := popI m.lo + popI m.hi
theorem cntM_bd (m : VMk) : 0 ≤ cntM m ∧ cntM m ≤ 128 := by unfold cntM; have := popI_bd m.lo; have := popI_bd m.hi; omega
theorem cnt_dig (m : VMk) : ((digM m).length : Int) = cntM m := by
  unfold digM cntM popI
  rw [show (128 : Nat) = 64 + 64 from rfl, List.range_add, List.filter_append, List.length_append, List.filter_map, List.length_map]
  have e1 : (List.range 64).filter (hasM m) = (List.range 64).filter fun i => m.lo.toNat.testBit i := List.filter_congr fun i hi => hasM_lo (by simpa using hi)
  have e2 : (List.range 64).filter (hasM m ∘ fun x => 64 + x) = (List.range 64).filter fun i => m.hi.toNat.testBit i := List.filter_congr fun i hi => hasM_hi (by simpa using hi)
  rw [e1, e2]
  unfold popK
  push_cast; rfl
theorem filter_le {p : Nat → Bool} {b : Nat} : ∀ n, (∀ d, d < n → p d = true → d < b) → ((List.range n).filter p).length ≤ b ∧ ((List.range n).filter p).length ≤ n
  | 0, _ => by simp
  | n + 1, h => by
    have ih := filter_le n fun d hd => h d (by omega)
    rw [List.range_succ, List.filter_append, List.length_append]
    by_cases hp : p n = true
    · have := h n (by omega) hp
      simp [hp]; omega
    · simp [hp]; omega
theorem cnt_le {s : List Int} {l : List VMk} (h : PhOk s l) (hb : Bases s) {i : Nat} (hi : i < s.length) : 1 ≤ cntM (l.getD i zMk) ∧ cntM (l.getD i zMk) ≤ s.getD i 0 := by
  have hbi := hb i hi
  rw [← cnt_dig]
  constructor
  · obtain ⟨d, hd, hh⟩ := h.some_ i hi
    have : d ∈ digM (l.getD i zMk) := List.mem_filter.2 ⟨by simpa using hd, hh⟩
    have := List.length_pos_of_mem this
    omega
  · have := (filter_le (p := hasM (l.getD i zMk)) (b := (s.getD i 0).toNat) 128 fun d hd hh => by have := h.lt i hi d hd hh; omega).1
    unfold digM; omega
/-! choices -/
def choV (l : List VMk) : Nat → Int
  | 0 => 1
  | i + 1 => choV l i * cntM (l.getD i zMk)
theorem cho_bd {s : List Int} {l : List VMk} (h : PhOk s l) (hs : Stk s) : ∀ i, i ≤ s.length → 1 ≤ choV l i ∧ choV l i ≤ prod (s.take i)
  | 0, _ => by simp [choV, prod]
  | i + 1, hi => by
    have ih := cho_bd h hs i (by omega)
    have hc := cnt_le h hs.bases (i := i) (by omega)
    have h1 : 1 * 1 ≤ choV l i * cntM (l.getD i zMk) := Int.mul_le_mul ih.1 hc.1 (by omega) (by omega)
    have h2 : choV l i * cntM (l.getD i zMk) ≤ prod (s.take i) * s.getD i 0 := Int.mul_le_mul ih.2 hc.2 (by omega) (by omega)
    rw [choV, prod_take (by omega)]
    omega
theorem cho_le {s : List Int} {l : List VMk} (h : PhOk s l) (hs : Stk s) {i : Nat} (hi : i ≤ s.length) : 1 ≤ choV l i ∧ choV l i ≤ 1000000000000 := by
  have h1 := cho_bd h hs i hi
  have h2 := prod_take_le hs.bases i
  have := hs.le
  omega
def lessM (m : VMk) (d : Nat) : Int := (((List.range d).filter (hasM m)).length : Int)
theorem less_succ (m : VMk) (d : Nat) : lessM m (d + 1) = lessM m d + if hasM m d = true then 1 else 0 := by
  unfold lessM
  rw [List.range_succ, List.filter_append, List.length_append]
  by_cases h : hasM m d = true
  · simp [h]
  · simp [h]
theorem less_bd (m : VMk) (d : Nat) : 0 ≤ lessM m d ∧ lessM m d ≤ d := by
  unfold lessM
  have := (filter_le (p := hasM m) (b := d) d fun d hd _ => hd).1
  omega
def belV (l : List VMk) (d : List Int) : Nat → Int → Int
  | 0, n => n
  | i + 1, n => if hasM (l.getD i zMk) (d.getD i 0).toNat = true then belV l d i (n + lessM (l.getD i zMk) (d.getD i 0).toNat * choV l i) else n + lessM (l.getD i zMk) (d.getD i 0).toNat * choV l i
theorem bel_term {s : List Int} {l : List VMk} {d : List Int} (h : PhOk s l) (hs : Stk s) (hd : DigOk s d) {i : Nat} (hi : i < s.length) : 0 ≤ lessM (l.getD i zMk) (d.getD i 0).toNat * choV l i ∧ lessM (l.getD i zMk) (d.getD i 0).toNat * choV l i ≤ 100000000000000 := by
  have h1 := cho_le h hs (i := i) (by omega)
  have h2 := less_bd (l.getD i zMk) (d.getD i 0).toNat
  have h3 := hd i hi
  have h4 := hs.bases i hi
  refine ⟨Int.mul_nonneg (by omega) (by omega), ?_⟩
  have : lessM (l.getD i zMk) (d.getD i 0).toNat * choV l i ≤ 100 * 1000000000000 := Int.mul_le_mul (by omega) h1.2 (by omega) (by omega)
  omega
theorem bel_bd {s : List Int} {l : List VMk} {d : List Int} (h : PhOk s l) (hs : Stk s) (hd : DigOk s d) : ∀ i n, i ≤ s.length → n ≤ belV l d i n ∧ belV l d i n ≤ n + 100000000000000 * i
  | 0, n, _ => by simp [belV]
  | i + 1, n, hi => by
    have ht := bel_term h hs hd (i := i) (by omega)
    have ih := bel_bd h hs hd i (n + lessM (l.getD i zMk) (d.getD i 0).toNat * choV l i) (by omega)
    rw [belV]; split <;> omega
theorem bel_y {l : List VMk} {d : List Int} {i : Nat} {n : Int} (h : hasM (l.getD i zMk) (d.getD i 0).toNat = true) : belV l d (i + 1) n = belV l d i (n + lessM (l.getD i zMk) (d.getD i 0).toNat * choV l i) := by rw [belV, if_pos h]
theorem bel_n {l : List VMk} {d : List Int} {i : Nat} {n : Int} (h : hasM (l.getD i zMk) (d.getD i 0).toNat = false) : belV l d (i + 1) n = n + lessM (l.getD i zMk) (d.getD i 0).toNat * choV l i := by rw [belV, if_neg (by rw [h]; decide)]
def cinV (s : List Int) (p : VPh) (lo hi : Int) : Int × Int :=
  if validPh s p = false then (0, 1) else if ¬ ((0 ≤ lo ∧ lo ≤ size s - 1) ∧ 0 ≤ hi ∧ hi ≤ size s - 1) then (0, 2) else if hi < lo then (0, 0)
  else (belV p.l (digs s hi) s.length 0 - belV p.l (digs s lo) s.length 0 + (if showsM s p.l (digs s hi) = true then 1 else 0), 0)
/-! all values in a photo -/
def stepL (b : Int) (m : VMk) (out : List Int) : List Int := out.flatMap fun v => (digM m).map fun n : Nat => v * b + (n : Int)
def valL (s : List Int) (l : List VMk) : Nat → List Int
  | 0 => [0]
  | j + 1 => stepL (s.getD (s.length - 1 - j) 0) (l.getD (s.length - 1 - j) zMk) (valL s l j)
end Go.W

/- Values in photos, films, ways: in plain numbers. -/
set_option linter.unusedVariables false
set_option linter.unusedSimpArgs false
namespace Go.W
open Go Go.Sx
/-! ### A list of lists of anything -/
structure VX (α : Type) where
  A : Option Addr
  c : Nat
  xs : List α
variable {α : Type}
def encX (r : VX α) : List Value := [.slice r.A r.xs.length r.c]
theorem encX_len : ∀ r : VX α, (encX r).length = 1 := fun _ => rfl
def zX : VX α := ⟨none, 0, []⟩
def rwX (f : α → List Value) (T : TypeId) (sz : Nat) (r : VX α) : Rw := ⟨.slice r.A r.xs.length r.c, T, sz, r.xs.length, r.xs.flatMap f⟩
theorem readsX {C : Cx} {m : List Ent} {i : Nat} {f : α → List Value} {T : TypeId} {sz : Nat} {K : List (VX α)} (hi : m[i]? = some (.pile (K.map (rwX f T sz)))) {k : Nat} (hk : k < K.length) : Reads C m (K.getD k zX).A ((K.getD k zX).xs.flatMap f) :=
  Reads.pile hi (E := T) (sz := sz) (List.mem_map.2 ⟨_, getD_mem zX hk, rfl⟩)
def outX (K : List (VX α)) (n : Nat) : List (VX α) := K ++ List.replicate (n - K.length) zX
theorem outX_len {K : List (VX α)} {n : Nat} (h : K.length ≤ n) : (outX K n).length = n := by unfold outX; simp; omega
theorem outX_all {K : List (VX α)} {n : Nat} (h : K.length = n) : outX K n = K := by unfold outX; rw [h]; simp
theorem outX_set {K : List (VX α)} {n : Nat} (r : VX α) (h : K.length < n) : (outX K n).set K.length r = outX (K ++ [r]) n := by
  unfold outX
  rw [List.set_append_right _ _ (Nat.le_refl _), Nat.sub_self, List.length_append]
  obtain ⟨j, hj⟩ : ∃ j, n - K.length = j + 1 := ⟨n - K.length - 1, by omega⟩
  rw [hj, List.replicate_succ, List.set_cons_zero, List.append_assoc, show n - (K.length + [r].length) = j by simp; omega]; rfl
theorem outX_put {K : List (VX α)} {n i : Nat} {v : List Value} (r : VX α) (h : K.length < n) (hi : i = K.length * 1) (hv : v = encX r) : put ((outX K n).flatMap encX) i v = (outX (K ++ [r]) n).flatMap encX := by
  subst hi hv
  rw [flat_put encX_len _ _ _ (by rw [outX_len (by omega)]; exact h), outX_set r h]
theorem zoutX {zs : List Value} {n : Nat} (h : zs = encX (zX : VX α)) : zerosL zs n = (outX ([] : List (VX α)) n).flatMap encX := by
  subst h; rw [zeros_flat encX_len zX (by omega) n]; unfold outX; simp
theorem outX_last {K : List (VX α)} {r : VX α} {n : Nat} : (outX (K ++ [r]) n).getD K.length zX = r := by
  unfold outX; simp [List.getD]
theorem cellE {β : Type} {C : Cx} {m : List Ent} {A : Option Addr} {f : β → List Value} {sz : Nat} {xs : List β} {i : Int} (j : Nat) {v : Value} {r : β} (H : Reads C m A (xs.flatMap f)) (hf : ∀ x, (f x).length = sz) (d : β) (k : Nat) (hk : Nat.blt k sz = true) (hi : i = (j : Int)) (hj : j < xs.length) (he : xs.getD j d = r) (hv : (f r)[k]? = some v) : CellO C m (offA A (i.toNat * sz + k)) v := by
  subst he; exact cellJ j H hf d k hk hi hj hv
theorem layX {C : Cx} {m F : List Ent} {f : α → List Value} {T : TypeId} {sz b n : Nat} {l : List α} {K : List (VX α)} (hl : l.length = n) (hp : m.Perm (.row (.slice (some ⟨b, 0, none⟩) n n) T sz n (l.flatMap f) :: .pile (K.map (rwX f T sz)) :: F)) : ∀ w, Holds C.base C.w0 m w → Holds C.base C.w0 (.pile ((K ++ [(⟨some ⟨b, 0, none⟩, n, l⟩ : VX α)]).map (rwX f T sz)) :: F) w := by
  subst hl
  rw [List.map_append]
  exact layEnd hp
end Go.W
namespace Go.W
open Go Go.Sx
/-! ### Values in a photo -/
def digI (m : VMk) : List Int := (digM m).map fun n : Nat => (n : Int)
def digP (m : VMk) (k : Nat) : List Int := ((List.range k).filter (hasM m)).map fun n : Nat => (n : Int)
theorem digP_all (m : VMk) : digP m 128 = digI m := rfl
theorem digP_y {m : VMk} {k : Nat} (h : hasM m k = true) : digP m (k + 1) = digP m k ++ [(k : Int)] := by
  unfold digP; rw [List.range_succ, List.filter_append, List.map_append]; simp [h]
theorem digP_n {m : VMk} {k : Nat} (h : hasM m k = false) : digP m (k + 1) = digP m k := by
  unfold digP; rw [List.range_succ, List.filter_append, List.map_append]; simp [h]
theorem digP_len (m : VMk) (k : Nat) : (digP m k).length ≤ k := by
  unfold digP; rw [List.length_map]; exact (filter_le k fun d hd _ => hd).1
theorem digI_len (m : VMk) : ((digI m).length : Int) = cntM m := by unfold digI; rw [List.length_map, cnt_dig]
theorem digI_len' (m : VMk) : (digI m).length ≤ 128 := digP_len m 128
theorem digP_end {m : VMk} {b : Nat} (hb : b ≤ 128) (h : ∀ d, d < 128 → hasM m d = true → d < b) : digP m b = digI m := by
  rw [← digP_all]
  have key : ∀ j, b + j ≤ 128 → digP m (b + j) = digP m b := by
    intro j
    induction j with
    | zero => intro _; rfl
    | succ j ih =>
      intro hj
      rw [← Nat.add_assoc, digP_n, ih (by omega)]
      cases hh : hasM m (b + j)
      · rfl
      · have := h (b + j) (by omega) hh; omega
  have := key (128 - b) (by omega)
  rw [show b + (128 - b) = 128 by omega] at this
  exact this.symm
theorem digI_has {m : VMk} {x : Int} (h : x ∈ digI m) : 0 ≤ x ∧ x < 128 ∧ hasM m x.toNat = true := by
  unfold digI at h
  obtain ⟨n, hn, rfl⟩ := List.mem_map.1 h
  have := List.mem_filter.1 hn
  refine ⟨Int.natCast_nonneg _, ?_, by simpa using this.2⟩
  have := this.1; simp at this; omega
/-- What one value makes of the digits of one more wheel. -/
def oneL (b : Int) (ds : List Int) (v : Int) : List Int := ds.map fun n => v * b + n
def stepV (b : Int) (ds out : List Int) : List Int := out.flatMap (oneL b ds)
def valW (s : List Int) (l : List VMk) : Nat → List Int
  | 0 => [0]
  | j + 1 => stepV (s.getD (s.length - 1 - j) 0) (digI (l.getD (s.length - 1 - j) zMk)) (valW s l j)
def valsP (s : List Int) (p : VPh) : List Int := valW s p.l s.length
theorem one_len (b : Int) (ds : List Int) (v : Int) : (oneL b ds v).length = ds.length := by simp [oneL]
theorem stp_len (b : Int) (ds : List Int) : ∀ out : List Int, (stepV b ds out).length = out.length * ds.length
  | [] => by simp [stepV]
  | v :: out => by
    have := stp_len b ds out
    unfold stepV at this ⊢
    rw [List.flatMap_cons, List.length_append, this, one_len, List.length_cons, Nat.succ_mul, Nat.add_comm]
def partV (b : Int) (ds out : List Int) (q r : Nat) : List Int := stepV b ds (out.take q) ++ oneL b (ds.take r) (out.getD q 0)
theorem ptv_0 (b : Int) (ds out : List Int) : partV b ds out 0 0 = [] := by simp [partV, stepV, oneL]
theorem ptv_snoc {b : Int} {ds out : List Int} {q r : Nat} (hr : r < ds.length) : partV b ds out q (r + 1) = partV b ds out q r ++ [out.getD q 0 * b + ds.getD r 0] := by
  unfold partV oneL
  rw [List.take_succ_eq_append_getElem hr, List.map_append, List.append_assoc]
  simp [List.getD, hr]
theorem ptv_next {b : Int} {ds out : List Int} {q r : Nat} (hq : q < out.length) (hr : r = ds.length) : partV b ds out q r = partV b ds out (q + 1) 0 := by
  subst hr
  unfold partV stepV
  rw [List.take_length, List.take_succ_eq_append_getElem hq, List.flatMap_append]
  simp [oneL, List.getD, hq]
theorem ptv_all {b : Int} {ds out : List Int} : partV b ds out out.length 0 = stepV b ds out := by unfold partV; simp [oneL]
theorem ptv_len (b : Int) (ds out : List Int) (q r : Nat) (hq : q < out.length) (hr : r ≤ ds.length) : (partV b ds out q r).length ≤ out.length * ds.length := by
  unfold partV
  rw [List.length_append, stp_len, one_len, List.length_take, List.length_take, Nat.min_eq_left (by omega), Nat.min_eq_left hr]
  have : (q + 1) * ds.length ≤ out.length * ds.length := Nat.mul_le_mul_right _ (by omega)
  rw [Nat.succ_mul] at this; omega
theorem valW_len {s : List Int} {l : List VMk} : ∀ j, j ≤ s.length → ((valW s l j).length : Int) * choV l (s.length - j) = choV l s.length
  | 0, _ => by simp [valW]
  | j + 1, h => by
    have ih := valW_len (s := s) (l := l) j (by omega)
    rw [valW, stp_len, Int.natCast_mul, digI_len]
    rw [show s.length - j = (s.length - 1 - j) + 1 by omega, choV] at ih
    rw [show s.length - (j + 1) = s.length - 1 - j by omega, Int.mul_assoc, Int.mul_comm (cntM _), ih]
theorem valsP_len (s : List Int) (p : VPh) : ((valsP s p).length : Int) = choV p.l s.length := by
  have := valW_len (s := s) (l := p.l) s.length (Nat.le_refl _)
  rw [Nat.sub_self, choV, Int.mul_one] at this
  exact this
theorem valW_le {s : List Int} {l : List VMk} (h : PhOk s l) (hs : Stk s) {j : Nat} (hj : j ≤ s.length) : 1 ≤ ((valW s l j).length : Int) ∧ ((valW s l j).length : Int) ≤ choV l s.length := by
  have h1 := valW_len (s := s) (l := l) j hj
  have h2 := cho_le h hs (i := s.length - j) (by omega)
  have h3 := cho_le h hs (i := s.length) (by omega)
  rcases Nat.eq_zero_or_pos (valW s l j).length with h0 | h0
  · rw [h0] at h1; simp at h1; omega
  · refine ⟨by omega, ?_⟩
    have : ((valW s l j).length : Int) * 1 ≤ ((valW s l j).length : Int) * choV l (s.length - j) := Int.mul_le_mul_of_nonneg_left h2.1 (by omega)
    omega
theorem valW_bd {s : List Int} {l : List VMk} (h : PhOk s l) (hs : Stk s) : ∀ j, j ≤ s.length → ∀ v ∈ valW s l j, 0 ≤ v ∧ v < prod (s.drop (s.length - j))
  | 0, _, v, hv => by simp [valW] at hv; subst hv; simp [prod]
  | j + 1, hj, v, hv => by
    have ih := valW_bd h hs j (by omega)
    rw [valW] at hv
    obtain ⟨u, hu, hv⟩ := List.mem_flatMap.1 hv
    obtain ⟨n, hn, rfl⟩ := List.mem_map.1 hv
    have hn := digI_has hn
    have h1 := ih u hu
    have hi : s.length - 1 - j < s.length := by omega
    have h2 := h.lt _ hi n.toNat (by omega) hn.2.2
    have hb := hs.bases _ hi
    rw [show s.length - (j + 1) = s.length - 1 - j by omega, prod_drop hi]
    rw [show s.length - j = s.length - 1 - j + 1 by omega] at h1
    generalize s.getD (s.length - 1 - j) 0 = b at *
    generalize prod (s.drop (s.length - 1 - j + 1)) = P at *
    have h3 : 0 ≤ u * b := Int.mul_nonneg h1.1 (by omega)
    have h4 : (u + 1) * b ≤ P * b := Int.mul_le_mul_of_nonneg_right (by omega) (by omega)
    rw [Int.add_mul, Int.mul_comm P b] at h4
    omega
theorem valW_at {s : List Int} {l : List VMk} (h : PhOk s l) (hs : Stk s) {j : Nat} (hj : j ≤ s.length) (q : Nat) : 0 ≤ (valW s l j).getD q 0 ∧ (valW s l j).getD q 0 < 1000000000000 := by
  rcases Nat.lt_or_ge q (valW s l j).length with hq | hq
  · have h1 := valW_bd h hs j hj _ (getD_mem 0 hq)
    have h2 := prod_drop_le hs.bases (s.length - j)
    have := hs.le
    omega
  · simp [List.getD, hq]
theorem valW_mul {s : List Int} {l : List VMk} (h : PhOk s l) (hs : Stk s) {j : Nat} (hj : j + 1 ≤ s.length) (q : Nat) : 0 ≤ (valW s l j).getD q 0 * s.getD (s.length - 1 - j) 0 ∧ (valW s l j).getD q 0 * s.getD (s.length - 1 - j) 0 ≤ 100000000000000 := by
  have h1 := valW_at h hs (j := j) (by omega) q
  have hb := hs.bases (s.length - 1 - j) (by omega)
  refine ⟨Int.mul_nonneg h1.1 (by omega), ?_⟩
  have : (valW s l j).getD q 0 * s.getD (s.length - 1 - j) 0 ≤ 1000000000000 * 100 := Int.mul_le_mul (by omega) hb.2 (by omega) (by omega)
  omega
def vinV (s : List Int) (p : VPh) : List Int × Int := if validPh s p = false then ([], 1) else if 400 < choV p.l s.length then ([], 3) else (valsP s p, 0)
end Go.W

/- Films: photos in a row, and the ways through them; in plain numbers. -/
set_option linter.unusedVariables false
set_option linter.unusedSimpArgs false
namespace Go.W
open Go Go.Sx
def filmL (s : List Int) (L : List VPh) : List (List Int) := L.map (valsP s)
def filmF (s : List Int) (L : List VPh) (k : Nat) : List Int := (filmL s L).getD k []
def badP (s : List Int) (L : List VPh) : Bool := L.any fun p => !photoOk s p.l
def manyP (s : List Int) (L : List VPh) : Bool := L.any fun p => decide (400 < choV p.l s.length)
def codeF (s : List Int) (L : List VPh) (lo hi us : Int) : Int :=
  if (validStack s && !badP s L) = false then 1
  else if ¬ ((1 ≤ L.length ∧ L.length ≤ 20) ∧ 0 ≤ lo ∧ lo ≤ hi ∧ hi ≤ 1000000000000 ∧ lo ≤ us ∧ us ≤ hi) then 2
  else if manyP s L = true then 3 else 0
theorem cf_1 {s : List Int} {L : List VPh} {lo hi us : Int} (h : (validStack s && !badP s L) = false) : codeF s L lo hi us = 1 := by unfold codeF; rw [if_pos h]
theorem cf_2 {s : List Int} {L : List VPh} {lo hi us : Int} (h : (validStack s && !badP s L) = true) (h2 : ¬ ((1 ≤ L.length ∧ L.length ≤ 20) ∧ 0 ≤ lo ∧ lo ≤ hi ∧ hi ≤ 1000000000000 ∧ lo ≤ us ∧ us ≤ hi)) : codeF s L lo hi us = 2 := by
  unfold codeF; rw [if_neg (by rw [h]; decide), if_pos h2]
theorem cf_3 {s : List Int} {L : List VPh} {lo hi us : Int} (h : (validStack s && !badP s L) = true) (h2 : (1 ≤ L.length ∧ L.length ≤ 20) ∧ 0 ≤ lo ∧ lo ≤ hi ∧ hi ≤ 1000000000000 ∧ lo ≤ us ∧ us ≤ hi) (h3 : manyP s L = true) : codeF s L lo hi us = 3 := by
  unfold codeF; rw [if_neg (by rw [h]; decide), if_neg (fun h9 => h9 h2), if_pos h3]
theorem cf_0 {s : List Int} {L : List VPh} {lo hi us : Int} (h : (validStack s && !badP s L) = true) (h2 : (1 ≤ L.length ∧ L.length ≤ 20) ∧ 0 ≤ lo ∧ lo ≤ hi ∧ hi ≤ 1000000000000 ∧ lo ≤ us ∧ us ≤ hi) (h3 : manyP s L = false) : codeF s L lo hi us = 0 := by
  unfold codeF; rw [if_neg (by rw [h]; decide), if_neg (fun h9 => h9 h2), if_neg (by rw [h3]; decide)]
theorem any_no {α : Type} {L : List α} {p : α → Bool} {d : α} {k : Nat} (hk : ¬ k < L.length) (h : ∀ i, i < k → p (L.getD i d) = false) : L.any p = false := by
  rw [List.any_eq_false]
  intro x hx
  obtain ⟨i, hi, rfl⟩ := List.getElem_of_mem hx
  have := h i (by omega)
  simpa [List.getD, hi] using this
theorem any_yes {α : Type} {L : List α} {p : α → Bool} {d : α} {k : Nat} (hk : k < L.length) (h : p (L.getD k d) = true) : L.any p = true := by
  rw [List.any_eq_true]; exact ⟨_, getD_mem d hk, h⟩
theorem any_at {α : Type} {L : List α} {p : α → Bool} {d : α} {k : Nat} (h : L.any p = false) (hk : k < L.length) : p (L.getD k d) = false := by
  rw [List.any_eq_false] at h
  have := h _ (getD_mem d hk)
  simpa using this
/-- What holds of a film whose code is 0. -/
structure Film (s : List Int) (L : List VPh) (lo hi us : Int) : Prop where
  vs : validStack s = true
  st : Stk s
  ok : ∀ k, k < L.length → PhOk s (L.getD k zPh).l
  len : 1 ≤ L.length ∧ L.length ≤ 20
  l0 : 0 ≤ lo
  le : lo ≤ hi
  h1 : hi ≤ 1000000000000
  us0 : lo ≤ us ∧ us ≤ hi
  cho : ∀ k, k < L.length → 1 ≤ choV (L.getD k zPh).l s.length ∧ choV (L.getD k zPh).l s.length ≤ 400
theorem okPs {s : List Int} {L : List VPh} (hL : ∀ p ∈ L, OkPh p) (h : (validStack s && !badP s L) = true) {k : Nat} (hk : k < L.length) : PhOk s (L.getD k zPh).l := by
  rw [Bool.and_eq_true, Bool.not_eq_true'] at h
  have := any_at (d := zPh) h.2 hk
  rw [Bool.not_eq_false'] at this
  exact phOk (stk h.1) (hL _ (getD_mem zPh hk)) this
theorem film {s : List Int} {L : List VPh} {lo hi us : Int} (hL : ∀ p ∈ L, OkPh p) (h : codeF s L lo hi us = 0) : Film s L lo hi us := by
  cases h1 : (validStack s && !badP s L) with
  | false => rw [cf_1 h1] at h; cases h
  | true =>
    by_cases h2 : (1 ≤ L.length ∧ L.length ≤ 20) ∧ 0 ≤ lo ∧ lo ≤ hi ∧ hi ≤ 1000000000000 ∧ lo ≤ us ∧ us ≤ hi
    · cases h3 : manyP s L with
      | true => rw [cf_3 h1 h2 h3] at h; cases h
      | false =>
        have hv : validStack s = true := by rw [Bool.and_eq_true] at h1; exact h1.1
        have hS := stk hv
        have hP := fun k hk => okPs hL h1 (k := k) hk
        refine ⟨hv, hS, hP, h2.1, h2.2.1, h2.2.2.1, h2.2.2.2.1, h2.2.2.2.2, fun k hk => ⟨(cho_le (hP k hk) hS (Nat.le_refl _)).1, ?_⟩⟩
        have := any_at (d := zPh) h3 hk
        rw [decide_eq_false_iff_not] at this
        omega
    · rw [cf_2 h1 h2] at h; cases h
/-! values of a film -/
theorem film_at {s : List Int} {L : List VPh} {k : Nat} (hk : k < L.length) : filmF s L k = valsP s (L.getD k zPh) := by
  simp [filmF, filmL, List.getD, hk]
theorem Film.vlen {s : List Int} {L : List VPh} {lo hi us : Int} (h : Film s L lo hi us) {k : Nat} (hk : k < L.length) : 1 ≤ (filmF s L k).length ∧ (filmF s L k).length ≤ 400 := by
  rw [film_at hk]
  have h1 := valsP_len s (L.getD k zPh)
  have h2 := h.cho k hk
  omega
theorem Film.v {s : List Int} {L : List VPh} {lo hi us : Int} (h : Film s L lo hi us) {k : Nat} (hk : k < L.length) (q : Nat) : 0 ≤ (filmF s L k).getD q 0 ∧ (filmF s L k).getD q 0 < 1000000000000 := by
  rw [film_at hk]; exact valW_at (h.ok k hk) h.st (Nat.le_refl _) q
def goesB (lo hi a b : Int) : Bool := decide (lo ≤ b - a ∧ b - a ≤ hi)
/-! how many ways -/
def sumT (l : List Int) : Nat → Int
  | 0 => 0
  | k + 1 => sumT l k + l.getD k 0
def wSum (lo hi : Int) (pv b : List Int) (v : Int) : Nat → Int
  | 0 => 0
  | j + 1 => wSum lo hi pv b v j + if goesB lo hi (pv.getD j 0) v = true then b.getD j 0 else 0
def wayL (lo hi : Int) (F : Nat → List Int) : Nat → List Int
  | 0 => (F 0).map fun _ => 1
  | k + 1 => (F (k + 1)).map fun v => wSum lo hi (F k) (wayL lo hi F k) v (F k).length
def wTot (lo hi : Int) (F : Nat → List Int) (k : Nat) : Int := sumT (wayL lo hi F k) (F k).length
def wOver (lo hi : Int) (F : Nat → List Int) (k : Nat) : Bool := decide (1000000000000000 < wTot lo hi F k)
def waysV (s : List Int) (L : List VPh) (lo hi : Int) : Int × Int :=
  if codeF s L lo hi lo ≠ 0 then (0, codeF s L lo hi lo)
  else if (List.range L.length).any (wOver lo hi (filmF s L)) = true then (0, 3) else (wTot lo hi (filmF s L) (L.length - 1), 0)
theorem way_len (lo hi : Int) (F : Nat → List Int) : ∀ k, (wayL lo hi F k).length = (F k).length
  | 0 => by simp [wayL]
  | k + 1 => by simp [wayL]
theorem way_0 {lo hi : Int} {F : Nat → List Int} {i : Nat} (h : i < (F 0).length) : (wayL lo hi F 0).getD i 0 = 1 := by
  rw [wayL]; generalize F 0 = l at h; simp [List.getD, h]
theorem way_s {lo hi : Int} {F : Nat → List Int} {k i : Nat} (h : i < (F (k + 1)).length) : (wayL lo hi F (k + 1)).getD i 0 = wSum lo hi (F k) (wayL lo hi F k) ((F (k + 1)).getD i 0) (F k).length := by
  rw [wayL]; generalize F (k + 1) = l at h; simp [List.getD, h]
theorem sumT_0 {l : List Int} (h : ∀ i, 0 ≤ l.getD i 0) : ∀ k, 0 ≤ sumT l k
  | 0 => by simp [sumT]
  | k + 1 => by rw [sumT]; have := sumT_0 h k; have := h k; omega
theorem sumT_mono {l : List Int} (h : ∀ i, 0 ≤ l.getD i 0) {i j : Nat} (hij : i ≤ j) : sumT l i ≤ sumT l j := by
  induction hij with
  | refl => omega
  | step _ ih => rw [sumT]; have := h; rename_i m _; have := h m; omega
theorem wSum_bd {lo hi v : Int} {pv b : List Int} (h : ∀ i, 0 ≤ b.getD i 0) : ∀ k, 0 ≤ wSum lo hi pv b v k ∧ wSum lo hi pv b v k ≤ sumT b k
  | 0 => by simp [wSum, sumT]
  | k + 1 => by
    have h1 := wSum_bd (lo := lo) (hi := hi) (v := v) (pv := pv) h k
    have h2 := h k
    rw [wSum, sumT]; split <;> omega
theorem wSum_mono {lo hi v : Int} {pv b : List Int} (h : ∀ i, 0 ≤ b.getD i 0) {i j : Nat} (hij : i ≤ j) : wSum lo hi pv b v i ≤ wSum lo hi pv b v j := by
  induction hij with
  | refl => omega
  | step _ ih => rw [wSum]; rename_i m _; have := h m; split <;> omega
theorem way_nn (lo hi : Int) (F : Nat → List Int) : ∀ k i, 0 ≤ (wayL lo hi F k).getD i 0
  | 0, i => by
    rcases Nat.lt_or_ge i (F 0).length with h | h
    · rw [way_0 h]; omega
    · rw [List.getD, List.getElem?_eq_none (by rw [way_len]; exact h)]; simp
  | k + 1, i => by
    rcases Nat.lt_or_ge i (F (k + 1)).length with h | h
    · rw [way_s h]; exact (wSum_bd (way_nn lo hi F k) _).1
    · rw [List.getD, List.getElem?_eq_none (by rw [way_len]; exact h)]; simp
theorem way_le {lo hi : Int} {F : Nat → List Int} {k : Nat} (h : ∀ i, i < k → wOver lo hi F i = false) (i : Nat) : (wayL lo hi F k).getD i 0 ≤ 1000000000000000 := by
  rcases Nat.lt_or_ge i (F k).length with hi2 | hi2
  · match k with
    | 0 => rw [way_0 hi2]; omega
    | k + 1 =>
      rw [way_s hi2]
      have h1 := (wSum_bd (lo := lo) (hi := hi) (v := (F (k + 1)).getD i 0) (pv := F k) (way_nn lo hi F k) (F k).length).2
      have h2 := h k (by omega)
      unfold wOver wTot at h2
      rw [decide_eq_false_iff_not] at h2
      omega
  · rw [List.getD, List.getElem?_eq_none (by rw [way_len]; exact hi2)]; simp
theorem sumT_le {l : List Int} {B : Int} (h : ∀ i, l.getD i 0 ≤ B) : ∀ k : Nat, sumT l k ≤ B * k
  | 0 => by simp [sumT]
  | k + 1 => by rw [sumT]; have := sumT_le h k; have := h k; push_cast; rw [Int.mul_add]; omega
theorem wv_c {s : List Int} {L : List VPh} {lo hi : Int} (h : codeF s L lo hi lo ≠ 0) : waysV s L lo hi = (0, codeF s L lo hi lo) := by unfold waysV; rw [if_pos h]
theorem wv_3 {s : List Int} {L : List VPh} {lo hi : Int} {k i : Nat} (h : codeF s L lo hi lo = 0) (hk : k < L.length) (hi2 : i ≤ (filmF s L k).length) (ho : 1000000000000000 < sumT (wayL lo hi (filmF s L) k) i) : waysV s L lo hi = (0, 3) := by
  have h2 : wOver lo hi (filmF s L) k = true := by
    unfold wOver wTot
    rw [decide_eq_true_iff]
    have := sumT_mono (way_nn lo hi (filmF s L) k) hi2
    omega
  unfold waysV
  rw [if_neg (fun h9 => h9 h), if_pos (List.any_eq_true.2 ⟨k, by simpa using hk, h2⟩)]
theorem wv_0 {s : List Int} {L : List VPh} {lo hi : Int} (h : codeF s L lo hi lo = 0) (hall : ∀ i, i < L.length → wOver lo hi (filmF s L) i = false) : waysV s L lo hi = (wTot lo hi (filmF s L) (L.length - 1), 0) := by
  unfold waysV
  rw [if_neg (fun h9 => h9 h), if_neg (by rw [Bool.not_eq_true, List.any_eq_false]; intro x hx; rw [hall x (by simpa using hx)]; decide)]
/-! a way that is given -/
def wayOk (lo hi : Int) (F : Nat → List Int) (v : List Int) (k : Nat) : Bool := (F k).contains (v.getD k 0) && (decide (k = 0) || goesB lo hi (v.getD (k - 1) 0) (v.getD k 0))
def checkV (s : List Int) (L : List VPh) (v : List Int) (lo hi : Int) : Bool × Int :=
  if codeF s L lo hi lo ≠ 0 then (false, codeF s L lo hi lo) else (decide (v.length = L.length) && (List.range L.length).all (wayOk lo hi (filmF s L) v), 0)
theorem ck_c {s : List Int} {L : List VPh} {v : List Int} {lo hi : Int} (h : codeF s L lo hi lo ≠ 0) : checkV s L v lo hi = (false, codeF s L lo hi lo) := by unfold checkV; rw [if_pos h]
theorem ck_l {s : List Int} {L : List VPh} {v : List Int} {lo hi : Int} (h : codeF s L lo hi lo = 0) (hl : ¬ v.length = L.length) : checkV s L v lo hi = (false, 0) := by unfold checkV; rw [if_neg (fun h9 => h9 h), decide_eq_false hl]; rfl
theorem ck_n {s : List Int} {L : List VPh} {v : List Int} {lo hi : Int} {k : Nat} (h : codeF s L lo hi lo = 0) (hk : k < L.length) (hw : wayOk lo hi (filmF s L) v k = false) : checkV s L v lo hi = (false, 0) := by
  unfold checkV
  have : (List.range L.length).all (wayOk lo hi (filmF s L) v) = false := by
    rw [← Bool.not_eq_true, List.all_eq_true]; intro h9; rw [h9 k (by simpa using hk)] at hw; cases hw
  rw [if_neg (fun h9 => h9 h), this, Bool.and_false]
theorem ck_y {s : List Int} {L : List VPh} {v : List Int} {lo hi : Int} (h : codeF s L lo hi lo = 0) (hl : v.length = L.length) (hall : ∀ i, i < L.length → wayOk lo hi (filmF s L) v i = true) : checkV s L v lo hi = (true, 0) := by
  unfold checkV
  have : (List.range L.length).all (wayOk lo hi (filmF s L) v) = true := by rw [List.all_eq_true]; intro x hx; exact hall x (by simpa using hx)
  rw [if_neg (fun h9 => h9 h), this, decide_eq_true hl]; rfl
/-! what can be reached -/
def reachA (lo hi : Int) (pv : List Int) (b : List Bool) (v : Int) (j : Nat) : Bool := (List.range j).any fun i => b.getD i false && goesB lo hi (pv.getD i 0) v
def reachL (lo hi : Int) (F : Nat → List Int) : Nat → List Bool
  | 0 => (F 0).map fun _ => true
  | k + 1 => (F (k + 1)).map fun v => reachA lo hi (F k) (reachL lo hi F k) v (F k).length
theorem ra_0 (lo hi : Int) (pv : List Int) (b : List Bool) (v : Int) : reachA lo hi pv b v 0 = false := rfl
theorem ra_s (lo hi : Int) (pv : List Int) (b : List Bool) (v : Int) (j : Nat) : reachA lo hi pv b v (j + 1) = (reachA lo hi pv b v j || (b.getD j false && goesB lo hi (pv.getD j 0) v)) := by
  unfold reachA; rw [List.range_succ, List.any_append]; simp
theorem ra_true {lo hi : Int} {pv : List Int} {b : List Bool} {v : Int} {i j : Nat} (h : reachA lo hi pv b v i = true) (hij : i ≤ j) : reachA lo hi pv b v j = true := by
  unfold reachA at h ⊢
  rw [List.any_eq_true] at h ⊢
  obtain ⟨x, hx, h⟩ := h
  exact ⟨x, by simp at hx ⊢; omega, h⟩
theorem reach_len (lo hi : Int) (F : Nat → List Int) : ∀ k, (reachL lo hi F k).length = (F k).length
  | 0 => by simp [reachL]
  | k + 1 => by simp [reachL]
theorem reach_0 {lo hi : Int} {F : Nat → List Int} {i : Nat} (h : i < (F 0).length) : (reachL lo hi F 0).getD i false = true := by
  rw [reachL]; generalize F 0 = l at h; simp [List.getD, h]
theorem reach_s {lo hi : Int} {F : Nat → List Int} {k i : Nat} (h : i < (F (k + 1)).length) : (reachL lo hi F (k + 1)).getD i false = reachA lo hi (F k) (reachL lo hi F k) ((F (k + 1)).getD i 0) (F k).length := by
  rw [reachL]; generalize F (k + 1) = l at h; simp [List.getD, h]
def stuckI (lo hi : Int) (F : Nat → List Int) (n : Nat) : Option Nat := (List.range n).find? fun k => !(reachL lo hi F k).any id
def stuckV (s : List Int) (L : List VPh) (lo hi : Int) : Int × Int :=
  if codeF s L lo hi lo ≠ 0 then (0, codeF s L lo hi lo) else match stuckI lo hi (filmF s L) L.length with
  | some k => ((k : Int), 0)
  | none => (0, 6)
theorem sv_c {s : List Int} {L : List VPh} {lo hi : Int} (h : codeF s L lo hi lo ≠ 0) : stuckV s L lo hi = (0, codeF s L lo hi lo) := by unfold stuckV; rw [if_pos h]
theorem sv_y {s : List Int} {L : List VPh} {lo hi : Int} {k : Nat} (h : codeF s L lo hi lo = 0) (hk : k < L.length) (hall : ∀ i, i < k → (reachL lo hi (filmF s L) i).any id = true) (hn : (reachL lo hi (filmF s L) k).any id = false) : stuckV s L lo hi = ((k : Int), 0) := by
  have : stuckI lo hi (filmF s L) L.length = some k := by
    unfold stuckI
    rw [List.find?_range_eq_some]
    refine ⟨by rw [hn]; rfl, by simpa using hk, fun j hj => by rw [hall j hj]; rfl⟩
  unfold stuckV
  rw [if_neg (fun h9 => h9 h), this]
theorem sv_n {s : List Int} {L : List VPh} {lo hi : Int} (h : codeF s L lo hi lo = 0) (hall : ∀ i, i < L.length → (reachL lo hi (filmF s L) i).any id = true) : stuckV s L lo hi = (0, 6) := by
  have : stuckI lo hi (filmF s L) L.length = none := by
    unfold stuckI
    rw [List.find?_eq_none]
    intro x hx
    rw [hall x (by simpa using hx)]; decide
  unfold stuckV
  rw [if_neg (fun h9 => h9 h), this]
end Go.W

/- Films: least sums to the end, what is sure, the likeliest way; in plain numbers. -/
set_option linter.unusedVariables false
set_option linter.unusedSimpArgs false
namespace Go.W
open Go Go.Sx
def absW (n : Int) : Int := if n < 0 then -n else n
theorem absW_0 (n : Int) : 0 ≤ absW n := by unfold absW; split <;> omega
/-- The least sum that goes on from a value, among the first values of the next photo; -1 if none does. -/
def minC (lo hi us v : Int) (nv nc : List Int) : Nat → Int
  | 0 => -1
  | j + 1 => if nc.getD j 0 < 0 ∨ goesB lo hi v (nv.getD j 0) = false then minC lo hi us v nv nc j
    else if minC lo hi us v nv nc j < 0 ∨ nc.getD j 0 + absW (nv.getD j 0 - v - us) < minC lo hi us v nv nc j then nc.getD j 0 + absW (nv.getD j 0 - v - us) else minC lo hi us v nv nc j
/-- costL t: the sums of the photo that lies t before the last. -/
def costL (lo hi us : Int) (F : Nat → List Int) (n : Nat) : Nat → List Int
  | 0 => (F (n - 1)).map fun _ => 0
  | t + 1 => (F (n - 2 - t)).map fun v => minC lo hi us v (F (n - 1 - t)) (costL lo hi us F n t) (F (n - 1 - t)).length
theorem mc_n {lo hi us v : Int} {nv nc : List Int} {j : Nat} (h : nc.getD j 0 < 0 ∨ goesB lo hi v (nv.getD j 0) = false) : minC lo hi us v nv nc (j + 1) = minC lo hi us v nv nc j := by rw [minC, if_pos h]
theorem mc_y {lo hi us v : Int} {nv nc : List Int} {j : Nat} (h : ¬ nc.getD j 0 < 0) (h2 : goesB lo hi v (nv.getD j 0) = true) (h3 : minC lo hi us v nv nc j < 0 ∨ nc.getD j 0 + absW (nv.getD j 0 - v - us) < minC lo hi us v nv nc j) : minC lo hi us v nv nc (j + 1) = nc.getD j 0 + absW (nv.getD j 0 - v - us) := by
  rw [minC, if_neg (by rintro (h4 | h4); (· exact h h4); (· rw [h2] at h4; cases h4)), if_pos h3]
theorem mc_k {lo hi us v : Int} {nv nc : List Int} {j : Nat} (h3 : ¬ (minC lo hi us v nv nc j < 0 ∨ nc.getD j 0 + absW (nv.getD j 0 - v - us) < minC lo hi us v nv nc j)) : minC lo hi us v nv nc (j + 1) = minC lo hi us v nv nc j := by
  rw [minC]
  by_cases h : nc.getD j 0 < 0 ∨ goesB lo hi v (nv.getD j 0) = false
  · rw [if_pos h]
  · rw [if_neg h, if_neg h3]
theorem mc_lo (lo hi us v : Int) (nv nc : List Int) : ∀ j, -1 ≤ minC lo hi us v nv nc j
  | 0 => by simp [minC]
  | j + 1 => by
    have h1 := mc_lo lo hi us v nv nc j
    have h2 := absW_0 (nv.getD j 0 - v - us)
    rw [minC]; split
    · exact h1
    · split <;> omega
theorem mc_hi {lo hi us v B : Int} {nv nc : List Int} (hB : 0 ≤ B) (h : ∀ j, nc.getD j 0 ≤ B) (hv : 0 ≤ v ∧ v ≤ 1000000000000) (hn : ∀ j, 0 ≤ nv.getD j 0 ∧ nv.getD j 0 ≤ 1000000000000) (hu : 0 ≤ us ∧ us ≤ 1000000000000) : ∀ j, minC lo hi us v nv nc j ≤ B + 2000000000000
  | 0 => by simp [minC]; omega
  | j + 1 => by
    have h1 := mc_hi (lo := lo) (hi := hi) hB h hv hn hu j
    have h2 := hn j
    have h3 := h j
    have h4 : absW (nv.getD j 0 - v - us) ≤ 2000000000000 := by unfold absW; split <;> omega
    rw [minC]; split
    · exact h1
    · split <;> omega
/-- Where something goes on, the least sum is one of those that do. -/
theorem mc_at {lo hi us v : Int} {nv nc : List Int} : ∀ {j : Nat}, 0 ≤ minC lo hi us v nv nc j → ∃ i, i < j ∧ 0 ≤ nc.getD i 0 ∧ goesB lo hi v (nv.getD i 0) = true ∧ nc.getD i 0 + absW (nv.getD i 0 - v - us) = minC lo hi us v nv nc j
  | 0, h => by simp [minC] at h
  | j + 1, h => by
    rw [minC] at h ⊢
    split at h
    · next hc =>
      rw [if_pos hc]
      obtain ⟨i, h1, h2⟩ := mc_at h
      exact ⟨i, by omega, h2⟩
    · next hc =>
      rw [if_neg hc]
      split at h
      · next hd =>
        rw [if_pos hd]
        refine ⟨j, by omega, by omega, ?_, rfl⟩
        cases hg : goesB lo hi v (nv.getD j 0)
        · exact absurd (.inr hg) hc
        · rfl
      · next hd =>
        rw [if_neg hd]
        obtain ⟨i, h1, h2⟩ := mc_at h
        exact ⟨i, by omega, h2⟩
theorem mc_some {lo hi us v : Int} {nv nc : List Int} {i : Nat} (h0 : 0 ≤ nc.getD i 0) (hg : goesB lo hi v (nv.getD i 0) = true) : ∀ {j : Nat}, i < j → 0 ≤ minC lo hi us v nv nc j
  | 0, h => by omega
  | j + 1, h => by
    have h2 := absW_0 (nv.getD j 0 - v - us)
    rcases Nat.lt_or_ge i j with h1 | h1
    · have ih := mc_some (us := us) h0 hg h1
      rw [minC]; split
      · exact ih
      · split <;> omega
    · obtain rfl : i = j := by omega
      rw [minC, if_neg (by rintro (h4 | h4); (· omega); (· rw [hg] at h4; cases h4))]
      split <;> omega
theorem cost_len (lo hi us : Int) (F : Nat → List Int) (n : Nat) : ∀ t, t < n → (costL lo hi us F n t).length = (F (n - 1 - t)).length
  | 0, _ => by simp [costL]
  | t + 1, _ => by rw [costL, List.length_map, show n - 1 - (t + 1) = n - 2 - t by omega]
theorem cost_0 {lo hi us : Int} {F : Nat → List Int} {n : Nat} (i : Nat) : (costL lo hi us F n 0).getD i 0 = 0 := by
  rw [costL]; simp only [List.getD, List.getElem?_map]; cases (F (n - 1))[i]? <;> rfl
theorem cost_s {lo hi us : Int} {F : Nat → List Int} {n t i : Nat} (h : i < (F (n - 2 - t)).length) : (costL lo hi us F n (t + 1)).getD i 0 = minC lo hi us ((F (n - 2 - t)).getD i 0) (F (n - 1 - t)) (costL lo hi us F n t) (F (n - 1 - t)).length := by
  rw [costL]; generalize F (n - 2 - t) = l at h; simp [List.getD, h]
theorem cost_lo (lo hi us : Int) (F : Nat → List Int) (n : Nat) : ∀ t i, -1 ≤ (costL lo hi us F n t).getD i 0
  | 0, i => by rw [cost_0]; omega
  | t + 1, i => by
    rcases Nat.lt_or_ge i (F (n - 2 - t)).length with h | h
    · rw [cost_s h]; exact mc_lo ..
    · rw [List.getD, List.getElem?_eq_none (by rw [costL, List.length_map]; exact h)]; simp
theorem cost_hi {lo hi us : Int} {F : Nat → List Int} {n : Nat} (hF : ∀ k q, 0 ≤ (F k).getD q 0 ∧ (F k).getD q 0 ≤ 1000000000000) (hu : 0 ≤ us ∧ us ≤ 1000000000000) : ∀ (t i : Nat), (costL lo hi us F n t).getD i 0 ≤ 2000000000000 * (t : Int)
  | 0, i => by rw [cost_0]; simp
  | t + 1, i => by
    rcases Nat.lt_or_ge i (F (n - 2 - t)).length with h | h
    · rw [cost_s h]
      have := mc_hi (lo := lo) (hi := hi) (us := us) (v := (F (n - 2 - t)).getD i 0) (nv := F (n - 1 - t)) (nc := costL lo hi us F n t) (B := 2000000000000 * (t : Int)) (by omega) (cost_hi hF hu t) (hF _ _) (hF _) hu (F (n - 1 - t)).length
      push_cast; omega
    · rw [List.getD, List.getElem?_eq_none (by rw [costL, List.length_map]; exact h)]; simp; omega
/-! what is sure -/
def okAt (lo hi us : Int) (F : Nat → List Int) (n k i : Nat) : Bool := (reachL lo hi F k).getD i false && decide (0 ≤ (costL lo hi us F n (n - 1 - k)).getD i 0)
/-- endL t: of the photo that lies t before the last, what is reached and goes on to the end. -/
def endA (lo hi : Int) (v : Int) (nv : List Int) (e : List Bool) (j : Nat) : Bool := (List.range j).any fun i => e.getD i false && goesB lo hi v (nv.getD i 0)
def endR (lo hi : Int) (r : List Bool) (vs nv : List Int) (e : List Bool) : List Bool := (List.range r.length).map fun i => r.getD i false && endA lo hi (vs.getD i 0) nv e nv.length
def endL (lo hi : Int) (F : Nat → List Int) (n : Nat) : Nat → List Bool
  | 0 => reachL lo hi F (n - 1)
  | t + 1 => endR lo hi (reachL lo hi F (n - 2 - t)) (F (n - 2 - t)) (F (n - 1 - t)) (endL lo hi F n t)
theorem ea_0 (lo hi v : Int) (nv : List Int) (e : List Bool) : endA lo hi v nv e 0 = false := rfl
theorem ea_s (lo hi v : Int) (nv : List Int) (e : List Bool) (j : Nat) : endA lo hi v nv e (j + 1) = (endA lo hi v nv e j || (e.getD j false && goesB lo hi v (nv.getD j 0))) := by
  unfold endA; rw [List.range_succ, List.any_append]; simp
theorem ea_true {lo hi v : Int} {nv : List Int} {e : List Bool} {i j : Nat} (h : endA lo hi v nv e i = true) (hij : i ≤ j) : endA lo hi v nv e j = true := by
  unfold endA at h ⊢
  rw [List.any_eq_true] at h ⊢
  obtain ⟨x, hx, h⟩ := h
  exact ⟨x, by simp at hx ⊢; omega, h⟩
theorem end_len (lo hi : Int) (F : Nat → List Int) (n : Nat) : ∀ t, t < n → (endL lo hi F n t).length = (F (n - 1 - t)).length
  | 0, _ => by rw [endL, reach_len]; rfl
  | t + 1, _ => by rw [endL, endR, List.length_map, List.length_range, reach_len, show n - 1 - (t + 1) = n - 2 - t by omega]
theorem end_at {lo hi : Int} {F : Nat → List Int} {n t i : Nat} (h : i < (F (n - 2 - t)).length) : (endL lo hi F n (t + 1)).getD i false = ((reachL lo hi F (n - 2 - t)).getD i false && endA lo hi ((F (n - 2 - t)).getD i 0) (F (n - 1 - t)) (endL lo hi F n t) (F (n - 1 - t)).length) := by
  rw [endL, endR]
  simp only [List.getD, List.getElem?_map, List.getElem?_range (by rw [reach_len]; exact h : i < (reachL lo hi F (n - 2 - t)).length), Option.map_some, Option.getD_some]
theorem goes_reach {lo hi : Int} {F : Nat → List Int} {k i j : Nat} (hi2 : i < (F k).length) (hj : j < (F (k + 1)).length) (h : (reachL lo hi F k).getD i false = true) (hg : goesB lo hi ((F k).getD i 0) ((F (k + 1)).getD j 0) = true) : (reachL lo hi F (k + 1)).getD j false = true := by
  rw [reach_s hj]
  unfold reachA
  rw [List.any_eq_true]
  exact ⟨i, by simpa using hi2, by rw [h, hg]; rfl⟩
theorem end_ok {lo hi us : Int} {F : Nat → List Int} {n : Nat} : ∀ {t i : Nat}, t < n → i < (F (n - 1 - t)).length → (endL lo hi F n t).getD i false = okAt lo hi us F n (n - 1 - t) i
  | 0, i, ht, hi2 => by
    unfold okAt
    rw [endL, show n - 1 - (n - 1 - 0) = 0 by omega, cost_0]
    simp
  | t + 1, i, ht, hi2 => by
    have e1 : n - 1 - (t + 1) = n - 2 - t := by omega
    rw [e1] at hi2 ⊢
    rw [end_at hi2]
    unfold okAt
    rw [show n - 1 - (n - 2 - t) = t + 1 by omega, cost_s hi2]
    cases hr : (reachL lo hi F (n - 2 - t)).getD i false with
    | false => rfl
    | true =>
      rw [Bool.true_and, Bool.true_and]
      have e2 : n - 2 - t + 1 = n - 1 - t := by omega
      cases he : endA lo hi ((F (n - 2 - t)).getD i 0) (F (n - 1 - t)) (endL lo hi F n t) (F (n - 1 - t)).length with
      | true =>
        unfold endA at he
        rw [List.any_eq_true] at he
        obtain ⟨j, hj, he⟩ := he
        rw [Bool.and_eq_true] at he
        have hj2 : j < (F (n - 1 - t)).length := by simpa using hj
        have h1 := end_ok (lo := lo) (hi := hi) (us := us) (t := t) (by omega) hj2
        rw [he.1] at h1
        unfold okAt at h1
        have h2 := h1.symm
        rw [Bool.and_eq_true, decide_eq_true_iff, show n - 1 - (n - 1 - t) = t by omega] at h2
        exact (decide_eq_true (mc_some h2.2 he.2 hj2)).symm
      | false =>
        symm
        rw [decide_eq_false_iff_not]
        intro hm
        obtain ⟨j, hj, h0, hg, _⟩ := mc_at hm
        have hrj := goes_reach (k := n - 2 - t) hi2 (by rw [e2]; exact hj) hr (by rw [e2]; exact hg)
        rw [e2] at hrj
        have h1 := end_ok (lo := lo) (hi := hi) (us := us) (t := t) (by omega) hj
        unfold okAt at h1
        rw [hrj, show n - 1 - (n - 1 - t) = t by omega, decide_eq_true h0] at h1
        have : endA lo hi ((F (n - 2 - t)).getD i 0) (F (n - 1 - t)) (endL lo hi F n t) (F (n - 1 - t)).length = true := by
          unfold endA
          rw [List.any_eq_true]
          exact ⟨j, by simpa using hj, by rw [h1, hg]; rfl⟩
        rw [he] at this; cases this
theorem any_get {l : List Bool} : l.any id = true ↔ ∃ i, i < l.length ∧ l.getD i false = true := by
  rw [List.any_eq_true]
  constructor
  · rintro ⟨x, hx, h⟩
    obtain ⟨i, hi, rfl⟩ := List.getElem_of_mem hx
    exact ⟨i, hi, by simpa [List.getD, hi] using h⟩
  · rintro ⟨i, hi, h⟩
    exact ⟨_, getD_mem false hi, h⟩
theorem end_any {lo hi : Int} {F : Nat → List Int} {n : Nat} : ∀ {t : Nat}, t < n → ((endL lo hi F n t).any id = true ↔ (reachL lo hi F (n - 1)).any id = true)
  | 0, _ => Iff.rfl
  | t + 1, ht => by
    rw [← end_any (t := t) (by omega), any_get, any_get]
    have e1 : n - 1 - (t + 1) = n - 2 - t := by omega
    have e2 : n - 2 - t + 1 = n - 1 - t := by omega
    constructor
    · rintro ⟨i, hi2, h⟩
      rw [end_len lo hi F n (t + 1) ht, e1] at hi2
      rw [end_at hi2, Bool.and_eq_true] at h
      have h := h.2
      unfold endA at h
      rw [List.any_eq_true] at h
      obtain ⟨j, hj, h⟩ := h
      rw [Bool.and_eq_true] at h
      exact ⟨j, by rw [end_len lo hi F n t (by omega)]; simpa using hj, h.1⟩
    · rintro ⟨j, hj, h⟩
      rw [end_len lo hi F n t (by omega)] at hj
      have h1 := end_ok (lo := lo) (hi := hi) (us := 0) (t := t) (by omega) hj
      rw [h] at h1
      unfold okAt at h1
      have h2 := h1.symm
      rw [Bool.and_eq_true] at h2
      have h3 := h2.1
      rw [← e2] at h3 hj
      rw [reach_s hj] at h3
      unfold reachA at h3
      rw [List.any_eq_true] at h3
      obtain ⟨i, hi2, h3⟩ := h3
      rw [Bool.and_eq_true] at h3
      have hi3 : i < (F (n - 2 - t)).length := by simpa using hi2
      refine ⟨i, by rw [end_len lo hi F n (t + 1) ht, e1]; exact hi3, ?_⟩
      rw [end_at hi3, h3.1, Bool.true_and]
      unfold endA
      rw [List.any_eq_true]
      rw [e2] at hj h3
      exact ⟨j, by simpa using hj, by rw [h, h3.2]; rfl⟩
/-- Marks for the digits of values that are sure. -/
def putD (d : List Int) (l : List VMk) (w : Nat) : List VMk := l.set w (putM (l.getD w zMk) (d.getD w 0).toNat)
def putW (s : List Int) (d : List Int) (l : List VMk) : Nat → List VMk
  | 0 => l
  | w + 1 => putD d (putW s d l w) w
def sureM (s : List Int) (vs : List Int) (ok : Nat → Bool) : Nat → List VMk
  | 0 => zPh.l
  | i + 1 => if ok i = true then putW s (digs s (vs.getD i 0)) (sureM s vs ok i) s.length else sureM s vs ok i
theorem putW_len (s d : List Int) (l : List VMk) : ∀ w, (putW s d l w).length = l.length
  | 0 => rfl
  | w + 1 => by rw [putW, putD, List.length_set, putW_len s d l w]
theorem sure_len (s vs : List Int) (ok : Nat → Bool) : ∀ i, (sureM s vs ok i).length = 8
  | 0 => rfl
  | i + 1 => by rw [sureM]; split
                · rw [putW_len, sure_len s vs ok i]
                · exact sure_len s vs ok i
theorem sure_congr {s vs : List Int} {ok ok' : Nat → Bool} : ∀ {n : Nat}, (∀ i, i < n → ok i = ok' i) → sureM s vs ok n = sureM s vs ok' n
  | 0, _ => rfl
  | n + 1, h => by rw [sureM, sureM, h n (by omega), sure_congr fun i hi => h i (by omega)]
def surePs (s : List Int) (L : List VPh) (lo hi : Int) : List VPh := (List.range L.length).map fun k => phot (sureM s (filmF s L k) (okAt lo hi lo (filmF s L) L.length k) (filmF s L k).length)
def sureV (s : List Int) (L : List VPh) (lo hi : Int) : List VPh × Int :=
  if codeF s L lo hi lo ≠ 0 then ([], codeF s L lo hi lo) else if (reachL lo hi (filmF s L) (L.length - 1)).any id = false then ([], 6) else (surePs s L lo hi, 0)
/-! the likeliest way -/
def bestK (c : List Int) : Nat → Int
  | 0 => -1
  | i + 1 => if 0 ≤ c.getD i 0 ∧ (bestK c i < 0 ∨ c.getD i 0 < c.getD (bestK c i).toNat 0) then (i : Int) else bestK c i
def bestC (c : List Int) : Nat → Int
  | 0 => -1
  | i + 1 => if 0 ≤ c.getD i 0 ∧ (bestC c i < 0 ∨ c.getD i 0 < bestC c i) then c.getD i 0 else bestC c i
theorem bk_bd (c : List Int) : ∀ i, -1 ≤ bestK c i ∧ bestK c i < i
  | 0 => by simp [bestK]
  | i + 1 => by have := bk_bd c i; rw [bestK]; split <;> omega
theorem bk_nn (c : List Int) : ∀ j, 0 ≤ bestK c j → 0 ≤ c.getD (bestK c j).toNat 0
  | 0 => by simp [bestK]
  | j + 1 => by
    have ih := bk_nn c j
    by_cases h : 0 ≤ c.getD j 0 ∧ (bestK c j < 0 ∨ c.getD j 0 < c.getD (bestK c j).toNat 0)
    · rw [bestK, if_pos h, Int.toNat_natCast]; exact fun _ => h.1
    · rw [bestK, if_neg h]; exact ih
theorem bk_bc (c : List Int) : ∀ i, (bestK c i < 0 ∧ bestC c i = -1) ∨ (0 ≤ bestK c i ∧ bestC c i = c.getD (bestK c i).toNat 0)
  | 0 => by simp [bestC, bestK]
  | i + 1 => by
    have ih := bk_bc c i
    have hn := bk_nn c i
    by_cases h : 0 ≤ c.getD i 0 ∧ (bestK c i < 0 ∨ c.getD i 0 < c.getD (bestK c i).toNat 0)
    · have h2 : 0 ≤ c.getD i 0 ∧ (bestC c i < 0 ∨ c.getD i 0 < bestC c i) := ⟨h.1, by rcases ih with ih | ih <;> omega⟩
      right
      rw [bestK, bestC, if_pos h, if_pos h2, Int.toNat_natCast]
      exact ⟨by omega, rfl⟩
    · have h2 : ¬ (0 ≤ c.getD i 0 ∧ (bestC c i < 0 ∨ c.getD i 0 < bestC c i)) := by rcases ih with ih | ih <;> omega
      rw [bestK, bestC, if_neg h, if_neg h2]; exact ih
end Go.W

/- Arrays of arrays: an element of several cells, by a number that is reckoned. -/
namespace Go.Sx
open Go Go.RowKit
variable {C : Cx} {env : Env} {m : List Ent} {o : Oper}
theorem segB {α : Type} {f : α → List Value} {sz : Nat} {i b : Nat} {T} {xs : List α} {k : Nat} (hi : m[i]? = some (.blk b (xs.flatMap f) T)) (hf : ∀ x, (f x).length = sz) (d : α) (hk : k < xs.length) : SegO C m (some ⟨b, 0 + (k : Int).toNat * sz, none⟩) (f (xs.getD k d)) := by
  rw [Nat.zero_add, Int.toNat_natCast]
  refine SegO.blk hi fun j u hj => ?_
  have hlt : j < sz := by rw [← hf (xs.getD k d)]; exact (List.getElem?_eq_some_iff.1 hj).1
  rw [flat_get hf d xs k j hk hlt, hj]
theorem segOld {α : Type} {f : α → List Value} {sz : Nat} {b q : Nat} {xs : List α} {k : Nat} (H : Reads C m (some ⟨b, q, none⟩) (xs.flatMap f)) (hf : ∀ x, (f x).length = sz) (d : α) (hp : Nat.blt 0 sz = true) (hk : k < xs.length) : SegO C m (some ⟨b, q + (k : Int).toNat * sz, none⟩) (f (xs.getD k d)) := by
  have h := segN H hf hp d hk
  simpa [offA, add_at] using h
theorem fr_indexG {α : Type} {f : α → List Value} {sz : Nat} {xs : List α} {j : Nat} (hf : ∀ x, (f x).length = sz) (d : α) {S x y} {N : Nat} {E} {k} {dd} (ho : o.op = .index S x y) (hx : ev env x = some (.agg (List.toArray (xs.flatMap f)))) (hy : ev env y = some (.int k (j : Int))) (hS : C.P.underlying S = some (.array N E)) (hE : C.P.underlying E = some dd) (hd : aggD dd = true) (hs : (C.P.info? E).map (·.size) = some sz) (hN : xs.length = N) (hj : j < xs.length) : Free C o env m (.agg (f (xs.getD j d)).toArray) := by
  have := fr_indexN (C := C) (m := m) ho hx hy hS hE hd hs (by omega)
  rwa [Int.toNat_natCast, flat_seg hf d xs j hj] at this
theorem fr_sliceArr_h {T x y E k} {N b q0 : Nat} {q : Int} (h : Nat) (hq : q = (h : Nat)) (ho : o.op = .slice T x none (some y) none) (hx : ev env x = some (.pointer (some ⟨b, q0, none⟩))) (hy : ev env y = some (.int k q)) (hT : C.P.underlying T = some (.array N E)) {sz : Nat} (hs : (C.P.info? E).map (·.size) = some sz) (hN : Nat.blt 0 N = true) (hb : h ≤ N) : Free C o env m (.slice (some ⟨b, q0, none⟩) h N) := by
  subst hq
  intro a w hr _
  have hN0 : 0 < N := by simpa using hN
  have hal : C.P.arrayLen T = N := by simp [Program.arrayLen, hT]
  have he : C.P.elem T = E := by simp [Program.elem, hT]
  have ht' : C.P.underlying T = some (.array (C.P.arrayLen T) (C.P.elem T)) := by rw [hal, he, hT]
  have h2 := run_sliceAt_array_h (P := C.P) w T ⟨b, q0, none⟩ ht' k (h : Int) (by omega) (by omega)
  rw [he, run_sizeOf hs w, Result.andThen_ok, hal] at h2
  have h3 : slicedAt ⟨b, q0, none⟩ 0 ((h : Int).toNat) N sz = .slice (some ⟨b, q0, none⟩) h N := by
    unfold slicedAt
    rw [Int.toNat_natCast, if_neg (by omega), Nat.zero_mul, add_at, Nat.add_zero, Nat.sub_zero, Nat.sub_zero]
  rw [h3] at h2
  simp only [execOp, ho, hr.ev hx, Option.map_none, Option.map_some, hr.ev hy, Sem.run_bind, h2, Result.andThen_ok, Sem.run_pure]
theorem fr_maxW {x y T T' k p q} (z : Int) (hz : max p q = z) (ho : o.op = .call { callee := .builtin .max, args := #[x, y], argTypes := #[T, T'] }) (hx : ev env x = some (.int k p)) (hy : ev env y = some (.int k q)) : Free C o env m (.int k z) := by
  subst hz; exact fr_max ho hx hy
theorem cellW {β : Type} {A : Option Addr} {f : β → List Value} {sz : Nat} {xs : List β} {i : Int} (j : Nat) {v : Value} {r : β} (H : Reads C m A (xs.flatMap f)) (hf : ∀ x, (f x).length = sz) (d : β) (k : Nat) (hk : Nat.blt k sz = true) (hi : i = (j : Int)) (hj : j < xs.length) (he : xs.getD j d = r) (hv : (f r)[k]? = some v) : CellO C m (offA A (i.toNat * sz + k)) v := by
  subst he; exact cellJ j H hf d k hk hi hj hv
theorem quo64 {d : Nat} (h : d < 1000000) : IntKind.i64.wrap ((d : Int).tdiv 64) = ((d / 64 : Nat) : Int) := by
  rw [Int.tdiv_eq_ediv_of_nonneg (by omega), IntKind.wrap_i64]; omega
end Go.Sx
namespace Go.Sx
open Go Go.RowKit
variable {C : Cx} {env : Env} {m : List Ent} {l : List Oper} {K : Env → List Ent → Prop} {S : List Ent} {fuel i j di dj : Nat} {done : List Nat} {oi oj o : Oper}
/-- Two that may come in either order, each way walked by itself. -/
theorem ExD.fork (hi : l[i]? = some oi) (hj : l[j]? = some oj) (h2 : readyOk l done [i, j] = true) (hgi : wantB l env oi = some true) (hgj : wantB l env oj = some true)
    (h : Op1 C oi env m fun env m => S.Sublist m ∧ ExD C l S fuel (i :: done) env m K) (h' : Op1 C oj env m fun env m => S.Sublist m ∧ ExD C l S fuel (j :: done) env m K) : ExD C l S (fuel + 1) done env m K := by
  refine ExD.ops h2 (by simp) fun k hk => ?_
  rcases List.mem_cons.1 hk with rfl | hk
  · exact ⟨oi, hi, hgi, h⟩
  · obtain rfl : k = j := by simpa using hk
    exact ⟨oj, hj, hgj, h'⟩
end Go.Sx

/- Marks as the program reckons them. -/
set_option linter.unusedVariables false
set_option linter.unusedSimpArgs false
namespace Go.W
open Go Go.Sx
theorem has_dec {m : VMk} {d : Nat} (hm : OkMk m) (hd : d < 128) : decide (bits .and .u64 (m.l.getD (d / 64) 0 / 2 ^ min ((d : Int) % 64).toNat IntKind.u64.bits) 1 = 1) = hasM m d := by
  rw [show ((d : Int) % 64) = ((d % 64 : Nat) : Int) by omega, bit_walk (hm.at_ _) (by omega)]
  show decide ((if hasM m d = true then 1 else 0 : Int) = 1) = hasM m d
  cases hasM m d <;> rfl
theorem has_walk {m : VMk} {d : Nat} (hm : OkMk m) (hd : d < 128) : bits .and .u64 (m.l.getD (d / 64) 0 / 2 ^ min ((d : Int) % 64).toNat IntKind.u64.bits) 1 = if hasM m d = true then 1 else 0 := by
  rw [show ((d : Int) % 64) = ((d % 64 : Nat) : Int) by omega, bit_walk (hm.at_ _) (by omega)]; rfl
theorem put_walk {m : VMk} {d : Nat} (hm : OkMk m) (hd : d < 128) : put (encMk m) (0 + ((d / 64 : Nat) : Int).toNat * 1) [.int .u64 (bits .or .u64 (m.l.getD (d / 64) 0) (IntKind.u64.wrap (1 * 2 ^ min ((d : Int) % 64).toNat IntKind.u64.bits)))] = encMk (putM m d) := by
  rw [show ((d : Int) % 64) = ((d % 64 : Nat) : Int) by omega, shl_one (by omega), bits_or1 (hm.at_ _) (by omega)]
  unfold putM
  rw [encMk_mk (by rw [List.length_set]; rfl), Nat.zero_add, Int.toNat_natCast]
  exact flat_put (eI_len .u64) m.l (d / 64) _ (by rw [mk_len]; omega)
theorem pa_1 {s : List Int} {l : List VMk} {k : Nat} (hk : k < s.length) (h : decide ((l.getD k zMk).l = [0, 0]) = true) : phAt s l k = false := by unfold phAt; rw [if_pos hk, h]; rfl
theorem pa_2 {s : List Int} {l : List VMk} {k : Nat} (hk : k < s.length) (h : ¬ bits .andNot .u64 (l.getD k zMk).lo (fullM (s.getD k 0).toNat).lo = 0) : phAt s l k = false := by
  unfold phAt subM; rw [if_pos hk, decide_eq_false (p := _ ∧ _) (fun h9 => h h9.1), Bool.and_false]
theorem pa_3 {s : List Int} {l : List VMk} {k : Nat} (hk : k < s.length) (h : ¬ bits .andNot .u64 (l.getD k zMk).hi (fullM (s.getD k 0).toNat).hi = 0) : phAt s l k = false := by
  unfold phAt subM; rw [if_pos hk, decide_eq_false (p := _ ∧ _) (fun h9 => h h9.2), Bool.and_false]
theorem pa_4 {s : List Int} {l : List VMk} {k : Nat} (hk : k < s.length) (h0 : decide ((l.getD k zMk).l = [0, 0]) = false) (h1 : bits .andNot .u64 (l.getD k zMk).lo (fullM (s.getD k 0).toNat).lo = 0) (h2 : bits .andNot .u64 (l.getD k zMk).hi (fullM (s.getD k 0).toNat).hi = 0) : phAt s l k = true := by
  unfold phAt subM; rw [if_pos hk, h0, decide_eq_true ⟨h1, h2⟩]; rfl
theorem pa_4s {s : List Int} {l : List VMk} {k : Nat} (hk : k < s.length) (h0 : decide ((l.getD k zMk).l = [0, 0]) = false) (h1 : subM (l.getD k zMk) (fullM (s.getD k 0).toNat) = true) : phAt s l k = true := by
  unfold phAt; rw [if_pos hk, h0, h1]; rfl
theorem pa_2s {s : List Int} {l : List VMk} {k : Nat} (hk : k < s.length) (h : subM (l.getD k zMk) (fullM (s.getD k 0).toNat) = false) : phAt s l k = false := by
  unfold phAt; rw [if_pos hk, h, Bool.and_false]
theorem pa_5 {s : List Int} {l : List VMk} {k : Nat} (hk : ¬ k < s.length) (h : (!decide ((l.getD k zMk).l = [0, 0])) = true) : phAt s l k = false := by
  unfold phAt; rw [if_neg hk]; simpa using h
theorem pa_6 {s : List Int} {l : List VMk} {k : Nat} (hk : ¬ k < s.length) (h : (!decide ((l.getD k zMk).l = [0, 0])) = false) : phAt s l k = true := by
  unfold phAt; rw [if_neg hk]; simpa using h
theorem sub_dec {m n : VMk} : subM m n = (decide (bits .andNot .u64 m.lo n.lo = 0) && decide (bits .andNot .u64 m.hi n.hi = 0)) := by
  unfold subM; rw [Bool.decide_and]
theorem sh_1 {s : List Int} {p : VPh} {a : Dig} (h : validPh s p = false) : shV s p a = (false, 1) := by unfold shV; rw [h]; rfl
theorem sh_2 {s : List Int} {p : VPh} {a : Dig} (h : (validStack s && validDig s a.l) = false) : shV s p a = (false, 1) := by unfold shV; rw [h, Bool.and_false]; rfl
theorem sh_0 {s : List Int} {p : VPh} {a : Dig} (h1 : validPh s p = true) (h : (validStack s && validDig s a.l) = true) : shV s p a = (showsM s p.l a.l, 0) := by unfold shV; rw [h, h1]; rfl
end Go.W

/- Counts in photos, as the program reckons them. -/
set_option linter.unusedVariables false
set_option linter.unusedSimpArgs false
namespace Go.W
open Go Go.Sx
theorem ones64' {x a b c d e f : Int} (hx : 0 ≤ x ∧ x < 18446744073709551616)
    (ha : IntKind.u64.wrap (bits .and .u64 (x / 2 ^ min (1 : Int).toNat IntKind.u64.bits) 6148914691236517205 + bits .and .u64 x 6148914691236517205) = a)
    (hb : IntKind.u64.wrap (bits .and .u64 (a / 2 ^ min (2 : Int).toNat IntKind.u64.bits) 3689348814741910323 + bits .and .u64 a 3689348814741910323) = b)
    (hc : bits .and .u64 (IntKind.u64.wrap (b / 2 ^ min (4 : Int).toNat IntKind.u64.bits + b)) 1085102592571150095 = c)
    (hd : IntKind.u64.wrap (c + c / 2 ^ min (8 : Int).toNat IntKind.u64.bits) = d)
    (he : IntKind.u64.wrap (d + d / 2 ^ min (16 : Int).toNat IntKind.u64.bits) = e)
    (hf : IntKind.u64.wrap (e + e / 2 ^ min (32 : Int).toNat IntKind.u64.bits) = f) : 0 ≤ f ∧ f ≤ 9223372036854775807 ∧ f % 128 = popI x := by
  subst ha hb hc hd he hf
  exact ones64 hx
theorem and127 {f : Int} (h : 0 ≤ f ∧ f ≤ 9223372036854775807) : bits .and .i64 f 127 = f % 128 := bits_mask .i64 63 (by decide) wraps_i64 7 (by decide) f h.1 (by have := h.2; omega)
/-! bits, one by one -/
def popJ (x : Int) (k : Nat) : Int := (popK x.toNat k : Int)
theorem popJ_0 (x : Int) : popJ x 0 = 0 := rfl
theorem popJ_s {x : Int} (h : 0 ≤ x) (k : Nat) : popJ x (k + 1) = popJ x k + x / 2 ^ k % 2 := by
  obtain ⟨n, rfl⟩ := Int.eq_ofNat_of_zero_le h
  unfold popJ
  rw [Int.toNat_natCast, popK_succ]
  push_cast; rfl
theorem popJ_bd (x : Int) (k : Nat) : 0 ≤ popJ x k ∧ popJ x k ≤ k := by unfold popJ; have := popK_le x.toNat k; omega
theorem popJ_end {x : Int} {k : Nat} (h : 0 ≤ x) (hk : k ≤ 64) (hz : x / 2 ^ k = 0) : popJ x k = popI x := by
  obtain ⟨n, rfl⟩ := Int.eq_ofNat_of_zero_le h
  unfold popJ popI
  rw [Int.toNat_natCast]
  have hz2 : n / 2 ^ k = 0 := by exact_mod_cast hz
  have := popK_hi hz2 (64 - k)
  rw [show k + (64 - k) = 64 by omega] at this
  rw [this]
theorem pop_lt {x : Int} {k : Nat} (h : 0 ≤ x ∧ x < 18446744073709551616) (hz : ¬ x / 2 ^ k = 0) : k < 64 := by
  rcases Nat.lt_or_ge k 64 with h1 | h1
  · exact h1
  · exfalso
    refine hz (Int.ediv_eq_zero_of_lt h.1 ?_)
    have h2 : (2 : Nat) ^ 64 ≤ 2 ^ k := Nat.pow_le_pow_right (by omega) h1
    have h3 : ((2 : Int)) ^ 64 ≤ 2 ^ k := by exact_mod_cast h2
    have := h.2
    omega
theorem pop_div {x : Int} {k : Nat} : x / 2 ^ k / 2 ^ min (1 : Int).toNat IntKind.u64.bits = x / 2 ^ (k + 1) := by
  rw [show (2 : Int) ^ min (1 : Int).toNat IntKind.u64.bits = 2 from rfl, Int.pow_succ, Int.ediv_ediv_of_nonneg (Int.pow_nonneg (by omega))]
theorem pop_bd {x : Int} {k : Nat} (h : 0 ≤ x ∧ x < 18446744073709551616) : 0 ≤ x / 2 ^ k ∧ x / 2 ^ k < 18446744073709551616 := by
  have h0 : (0 : Int) ≤ 2 ^ k := Int.pow_nonneg (by omega)
  have h1 := Int.ediv_nonneg h.1 h0
  have h2 := Int.ediv_le_self (2 ^ k) h.1
  omega
def cumM (m : VMk) : Nat → Int
  | 0 => 0
  | i + 1 => cumM m i + popI (m.l.getD i 0)
theorem cumM_bd (m : VMk) : ∀ i : Nat, 0 ≤ cumM m i ∧ cumM m i ≤ 64 * i
  | 0 => by simp [cumM]
  | i + 1 => by have := cumM_bd m i; have := popI_bd (m.l.getD i 0); rw [cumM]; omega
theorem cumM_2 (m : VMk) : cumM m 2 = cntM m := by
  show (0 + popI m.lo) + popI m.hi = _
  unfold cntM; omega
/-! how many are less -/
def lessD (ds : List Int) (x : Int) : Nat → Int
  | 0 => 0
  | r + 1 => lessD ds x r + if ds.getD r 0 < x then 1 else 0
theorem lessD_y {ds : List Int} {x : Int} {r : Nat} (h : ds.getD r 0 < x) : lessD ds x (r + 1) = lessD ds x r + 1 := by rw [lessD, if_pos h]
theorem lessD_n {ds : List Int} {x : Int} {r : Nat} (h : ¬ ds.getD r 0 < x) : lessD ds x (r + 1) = lessD ds x r := by rw [lessD, if_neg h, Int.add_zero]
theorem lessD_bd (ds : List Int) (x : Int) : ∀ r : Nat, 0 ≤ lessD ds x r ∧ lessD ds x r ≤ r
  | 0 => by simp [lessD]
  | r + 1 => by have := lessD_bd ds x r; rw [lessD]; split <;> omega
theorem lessD_filter (ds : List Int) (x : Int) : ∀ r, r ≤ ds.length → lessD ds x r = (((ds.take r).filter fun y => decide (y < x)).length : Int)
  | 0, _ => by simp [lessD]
  | r + 1, h => by
    rw [lessD, lessD_filter ds x r (by omega), List.take_succ_eq_append_getElem (by omega : r < ds.length), List.filter_append, List.length_append]
    have e : ds.getD r 0 = ds[r] := by simp [List.getD, show r < ds.length by omega]
    rw [e]
    by_cases hx : ds[r] < x
    · simp [hx]
    · simp [hx]
theorem lessD_M (m : VMk) (d : Nat) : lessD (digI m) (d : Int) (digI m).length = lessM m (min 128 d) := by
  rw [lessD_filter _ _ _ (Nat.le_refl _), List.take_length]
  unfold digI digM
  have key : ∀ K : Nat, ((((((List.range K).filter (hasM m)).map fun n : Nat => (n : Int)).filter fun y => decide (y < (d : Int))).length : Nat) : Int) = lessM m (min K d) := by
    intro K
    induction K with
    | zero => simp [lessM]
    | succ K ih =>
      rw [List.range_succ, List.filter_append, List.map_append, List.filter_append, List.length_append, Int.natCast_add, ih]
      rcases Nat.lt_or_ge K d with h | h
      · rw [show min (K + 1) d = min K d + 1 by omega, less_succ, show min K d = K by omega]
        by_cases hh : hasM m K = true
        · simp [hh, h]
        · simp [hh]
      · rw [show min (K + 1) d = min K d by omega]
        by_cases hh : hasM m K = true
        · simp [hh, show ¬ ((K : Int) < d) by omega]
        · simp [hh]
  exact key 128
theorem less_end {m : VMk} {x : Int} (h : 0 ≤ x ∧ x ≤ 128) : lessD (digI m) x (digI m).length = lessM m x.toNat := by
  obtain ⟨d, rfl⟩ := Int.eq_ofNat_of_zero_le h.1
  rw [lessD_M, Int.toNat_natCast, show min 128 d = d by omega]
/-! what is added up from the last wheel on -/
def termB (l : List VMk) (d : List Int) (i : Nat) : Int := lessM (l.getD i zMk) (d.getD i 0).toNat * choV l i
def accU (l : List VMk) (d : List Int) : Nat → Nat → Int
  | 0, _ => 0
  | n + 1, k => accU l d n (k + 1) + termB l d k
theorem acc_s {l : List VMk} {d : List Int} {n j : Nat} (h : j < n) : accU l d (n - j) j = accU l d (n - (j + 1)) (j + 1) + lessM (l.getD j zMk) (d.getD j 0).toNat * choV l j := by
  obtain ⟨r, hr⟩ : ∃ r, n - j = r + 1 := ⟨n - j - 1, by omega⟩
  rw [hr, accU, show n - (j + 1) = r by omega]; rfl
theorem acc_bd {s : List Int} {l : List VMk} {d : List Int} (h : PhOk s l) (hs : Stk s) (hd : DigOk s d) : ∀ (n k : Nat), k + n ≤ s.length → 0 ≤ accU l d n k ∧ accU l d n k ≤ 100000000000000 * n
  | 0, _, _ => by simp [accU]
  | n + 1, k, hk => by
    have h1 := acc_bd h hs hd n (k + 1) (by omega)
    have h2 := bel_term h hs hd (i := k) (by omega)
    rw [accU]; unfold termB; omega
theorem bel_end {l : List VMk} {d : List Int} {n : Nat} (h : belV l d n 0 = belV l d 0 (accU l d n 0)) : accU l d n 0 = belV l d n 0 := h.symm
theorem bel_step {l : List VMk} {d : List Int} {n j : Nat} (hj : j < n) (h : belV l d n 0 = belV l d (j + 1) (accU l d (n - (j + 1)) (j + 1))) (hh : hasM (l.getD j zMk) (d.getD j 0).toNat = true) : belV l d n 0 = belV l d j (accU l d (n - j) j) := by
  rw [h, bel_y hh, acc_s hj]
theorem bel_stop {l : List VMk} {d : List Int} {n j : Nat} (h : belV l d n 0 = belV l d (j + 1) (accU l d (n - (j + 1)) (j + 1))) (hh : hasM (l.getD j zMk) (d.getD j 0).toNat = false) : accU l d (n - (j + 1)) (j + 1) + lessM (l.getD j zMk) (d.getD j 0).toNat * choV l j = belV l d n 0 := by
  rw [h, bel_n hh]
/-! the statement's own words -/
theorem ci_1 {s : List Int} {p : VPh} {lo hi : Int} (h : validPh s p = false) : cinV s p lo hi = (0, 1) := by unfold cinV; rw [if_pos h]
theorem ci_2 {s : List Int} {p : VPh} {lo hi : Int} (h : validPh s p = true) (h2 : ¬ ((0 ≤ lo ∧ lo ≤ size s - 1) ∧ 0 ≤ hi ∧ hi ≤ size s - 1)) : cinV s p lo hi = (0, 2) := by unfold cinV; rw [if_neg (by rw [h]; decide), if_pos h2]
theorem ci_0 {s : List Int} {p : VPh} {lo hi : Int} (h : validPh s p = true) (h2 : (0 ≤ lo ∧ lo ≤ size s - 1) ∧ 0 ≤ hi ∧ hi ≤ size s - 1) (h3 : hi < lo) : cinV s p lo hi = (0, 0) := by unfold cinV; rw [if_neg (by rw [h]; decide), if_neg (fun h9 => h9 h2), if_pos h3]
theorem ci_y {s : List Int} {p : VPh} {lo hi : Int} (h : validPh s p = true) (h2 : (0 ≤ lo ∧ lo ≤ size s - 1) ∧ 0 ≤ hi ∧ hi ≤ size s - 1) (h3 : ¬ hi < lo) (h4 : showsM s p.l (digs s hi) = true) : cinV s p lo hi = (belV p.l (digs s hi) s.length 0 - belV p.l (digs s lo) s.length 0 + 1, 0) := by
  unfold cinV; rw [if_neg (by rw [h]; decide), if_neg (fun h9 => h9 h2), if_neg h3, if_pos h4]
theorem ci_n {s : List Int} {p : VPh} {lo hi : Int} (h : validPh s p = true) (h2 : (0 ≤ lo ∧ lo ≤ size s - 1) ∧ 0 ≤ hi ∧ hi ≤ size s - 1) (h3 : ¬ hi < lo) (h4 : showsM s p.l (digs s hi) = false) : cinV s p lo hi = (belV p.l (digs s hi) s.length 0 - belV p.l (digs s lo) s.length 0, 0) := by
  unfold cinV; rw [if_neg (by rw [h]; decide), if_neg (fun h9 => h9 h2), if_neg h3, if_neg (by rw [h4]; decide), Int.add_zero]
theorem vph {s : List Int} {p : VPh} (hp : OkPh p) (h : validPh s p = true) : validStack s = true ∧ Stk s ∧ PhOk s p.l := by
  unfold validPh at h
  rw [Bool.and_eq_true] at h
  exact ⟨h.1, stk h.1, phOk (stk h.1) hp h.2⟩
end Go.W

/- Marks in lists; lists of values, as the program makes them. -/
set_option linter.unusedVariables false
set_option linter.unusedSimpArgs false
namespace Go.W
open Go Go.Sx
def mk8 (n : Nat) (k : Int) : List Int := (List.range n).map fun (i : Nat) => (k + (i : Int)) % 256
theorem mk8_len (n : Nat) (k : Int) : (mk8 n k).length = n := by simp [mk8]
theorem mk8_at {n : Nat} {k : Int} {i : Nat} (h : i < n) : (mk8 n k).getD i 0 = (k + (i : Int)) % 256 := by simp [mk8, List.getD, h]
def mkI (n : Nat) (k : Int) : List Int := (List.range n).map fun (i : Nat) => k + (i : Int)
theorem mkI_len (n : Nat) (k : Int) : (mkI n k).length = n := by simp [mkI]
theorem mkI_at {n : Nat} {k : Int} {i : Nat} (h : i < n) : (mkI n k).getD i 0 = k + (i : Int) := by simp [mkI, List.getD, h]
theorem digP_le (m : VMk) {d e : Nat} (h : d ≤ e) : (digP m d).length ≤ (digP m e).length := by
  induction h with
  | refl => exact Nat.le_refl _
  | step _ ih =>
    rename_i k _
    cases hh : hasM m k with
    | true => rw [digP_y hh, List.length_append]; simp; omega
    | false => rw [digP_n hh]; exact ih
def partS (b : Int) (m : VMk) (out : List Int) (q d : Nat) : List Int := stepV b (digI m) (out.take q) ++ oneL b (digP m d) (out.getD q 0)
theorem pts_0 (b : Int) (m : VMk) (out : List Int) (q : Nat) : partS b m out q 0 = partV b (digI m) out q 0 := rfl
theorem pts_y {b : Int} {m : VMk} {out : List Int} {q d : Nat} (h : hasM m d = true) : partS b m out q (d + 1) = partS b m out q d ++ [out.getD q 0 * b + d] := by
  unfold partS oneL
  rw [digP_y h, List.map_append, List.append_assoc]; rfl
theorem pts_n {b : Int} {m : VMk} {out : List Int} {q d : Nat} (h : hasM m d = false) : partS b m out q (d + 1) = partS b m out q d := by unfold partS; rw [digP_n h]
theorem pts_next {b : Int} {m : VMk} {out : List Int} {q d : Nat} (hq : q < out.length) (hd : d ≤ 128) (h : ∀ e, e < 128 → hasM m e = true → e < d) : partS b m out q d = partV b (digI m) out (q + 1) 0 := by
  rw [← ptv_next (r := (digI m).length) hq rfl]
  unfold partS partV
  rw [List.take_length, digP_end hd h]
theorem pts_len {b : Int} {m : VMk} {out : List Int} {q d : Nat} (hq : q < out.length) (hd : d ≤ 128) : (partS b m out q d).length ≤ out.length * (digI m).length := by
  have h1 := digP_le m hd
  have h2 : (digP m 128).length = (digI m).length := rfl
  unfold partS
  rw [List.length_append, stp_len, one_len, List.length_take, Nat.min_eq_left (by omega)]
  have : (q + 1) * (digI m).length ≤ out.length * (digI m).length := Nat.mul_le_mul_right _ (by omega)
  rw [Nat.succ_mul] at this; omega
theorem ptv_le {b : Int} {ds out : List Int} {q : Nat} (hq : q ≤ out.length) : (partV b ds out q 0).length ≤ out.length * ds.length := by
  unfold partV
  rw [List.length_append, stp_len, one_len, List.length_take, Nat.min_eq_left hq, List.take_zero]
  exact Nat.mul_le_mul_right _ hq
theorem val_room {s : List Int} {l : List VMk} (h : PhOk s l) (hs : Stk s) {t : Nat} (ht : t < s.length) : (valW s l t).length ≤ 1000000000000 ∧ (valW s l t).length * (digI (l.getD (s.length - 1 - t) zMk)).length ≤ 1000000000000 := by
  have h1 := valW_le h hs (j := t + 1) (by omega)
  have h0 := valW_le h hs (j := t) (by omega)
  have h2 := cho_le h hs (i := s.length) (Nat.le_refl _)
  rw [valW, stp_len] at h1
  omega
theorem vi_1 {s : List Int} {p : VPh} (h : validPh s p = false) : vinV s p = ([], 1) := by unfold vinV; rw [if_pos h]
theorem vi_3 {s : List Int} {p : VPh} (h : validPh s p = true) (h2 : 400 < choV p.l s.length) : vinV s p = ([], 3) := by unfold vinV; rw [if_neg (by rw [h]; decide), if_pos h2]
theorem vi_0 {s : List Int} {p : VPh} (h : validPh s p = true) (h2 : ¬ 400 < choV p.l s.length) : vinV s p = (valsP s p, 0) := by unfold vinV; rw [if_neg (by rw [h]; decide), if_neg h2]
theorem vi_len (s : List Int) (p : VPh) : (vinV s p).1.length ≤ 400 := by
  cases h : validPh s p with
  | false => rw [vi_1 h]; simp
  | true =>
    by_cases h2 : 400 < choV p.l s.length
    · rw [vi_3 h h2]; simp
    · rw [vi_0 h h2]
      have := valsP_len s p
      show (valsP s p).length ≤ 400
      omega
end Go.W

/- Films in memory. -/
set_option linter.unusedVariables false
set_option linter.unusedSimpArgs false
namespace Go.W
open Go Go.Sx
def samePh (a b : VPh) : Bool := (List.range 8).all fun i => decide ((a.l.getD i zMk).l = (b.l.getD i zMk).l)
theorem samePh_refl (a : VPh) : samePh a a = true := by simp [samePh]
theorem sp_no {a b : VPh} (k : Nat) (hk : k < 8) (h : ¬ (a.l.getD k zMk).l = (b.l.getD k zMk).l) : false = samePh a b := by
  symm; rw [← Bool.not_eq_true]; unfold samePh; rw [List.all_eq_true]; intro h9
  exact h (of_decide_eq_true (h9 k (by simp; omega)))
theorem sp_yes {a b : VPh} {k : Nat} (hk : ¬ k < 8) (h : ∀ i, i < k → (a.l.getD i zMk).l = (b.l.getD i zMk).l) : true = samePh a b := by
  symm; unfold samePh; rw [List.all_eq_true]; intro i hi
  exact decide_eq_true (h i (by simp at hi; omega))
def allEq {α : Type} (e : α → α → Bool) (d : α) (s t : List α) : Bool := decide (s.length = t.length ∧ ∀ i, i < s.length → e (s.getD i d) (t.getD i d) = true)
theorem allEq_refl {α : Type} {e : α → α → Bool} (he : ∀ x, e x x = true) (d : α) (s : List α) : allEq e d s s = true := by simp [allEq, he]
theorem ae_len {α : Type} {e : α → α → Bool} {d : α} {s t : List α} (h : ¬ s.length = t.length) : false = allEq e d s t := by symm; unfold allEq; rw [decide_eq_false_iff_not]; exact fun h' => h h'.1
theorem ae_no {α : Type} {e : α → α → Bool} {d : α} {s t : List α} (k : Nat) (hk : k < s.length) (h : e (s.getD k d) (t.getD k d) = false) : false = allEq e d s t := by
  symm; unfold allEq; rw [decide_eq_false_iff_not]; intro h'; rw [h'.2 k hk] at h; cases h
theorem ae_yes {α : Type} {e : α → α → Bool} {d : α} {s t : List α} {k : Nat} (hl : s.length = t.length) (hk : ¬ k < s.length) (h : ∀ i, i < k → e (s.getD i d) (t.getD i d) = true) : true = allEq e d s t := by
  symm; unfold allEq; rw [decide_eq_true_iff]; exact ⟨hl, fun i hi => h i (by omega)⟩
theorem samePhs_refl (s : List VPh) : allEq samePh zPh s s = true := allEq_refl samePh_refl _ _
/-! a film that is made -/
structure FSt where
  A : Option Addr
  c : Nat
  K : List (VX Int)
structure FX where
  b : Nat
  A : Option Addr
  c : Nat
  K : List (VX Int)
theorem kx_step {s : List Int} {L : List VPh} {K : List (VX Int)} {r : VX Int} (h : K.map (·.xs) = (filmL s L).take K.length) (hk : K.length < L.length) (hr : r.xs = valsP s (L.getD K.length zPh)) : (K ++ [r]).map (·.xs) = (filmL s L).take (K ++ [r]).length := by
  have h1 : K.length < (filmL s L).length := by simpa [filmL] using hk
  rw [List.map_append, h, List.length_append, show [r].length = 1 from rfl, List.take_succ_eq_append_getElem h1]
  congr 1
  simp [hr, filmL, List.getD, hk]
theorem kx_fin {s : List Int} {L : List VPh} {K : List (VX Int)} (h : K.map (·.xs) = (filmL s L).take K.length) (hk : K.length = L.length) : K.map (·.xs) = filmL s L := by
  rw [h, List.take_of_length_le (by simp [filmL]; omega)]
theorem kx_len {s : List Int} {L : List VPh} {K : List (VX Int)} (h : K.map (·.xs) = filmL s L) : K.length = L.length := by
  have := congrArg List.length h
  simpa [filmL] using this
theorem kx_at {s : List Int} {L : List VPh} {K : List (VX Int)} (h : K.map (·.xs) = filmL s L) (k : Nat) : (K.getD k zX).xs = filmF s L k := by
  have e : (K.getD k zX).xs = (K.map (·.xs)).getD k [] := by
    simp only [List.getD, List.getElem?_map]; cases K[k]? <;> rfl
  rw [e, h]; rfl
theorem kx_fun {s : List Int} {L : List VPh} {K : List (VX Int)} (h : K.map (·.xs) = filmL s L) : (fun k => (K.getD k zX).xs) = filmF s L := funext (kx_at h)
structure FK (K : List (VX Int)) (n : Nat) : Prop where
  len : K.length = n
  n1 : 1 ≤ n ∧ n ≤ 20
  vl : ∀ k, k < n → 1 ≤ (K.getD k zX).xs.length ∧ (K.getD k zX).xs.length ≤ 400
  v : ∀ k q, k < n → 0 ≤ (K.getD k zX).xs.getD q 0 ∧ (K.getD k zX).xs.getD q 0 < 1000000000000
theorem fk {s : List Int} {L : List VPh} {lo hi us : Int} {K : List (VX Int)} (hF : Film s L lo hi us) (h : K.map (·.xs) = filmL s L) : FK K L.length := by
  refine ⟨kx_len h, hF.len, fun k hk => ?_, fun k q hk => ?_⟩
  · rw [kx_at h]; exact hF.vlen hk
  · rw [kx_at h]; exact hF.v hk q
/-! codes -/
theorem cf_of {s : List Int} {L : List VPh} {lo hi us : Int} (h : codeF s L lo hi us = 0) : validStack s = true ∧ badP s L = false ∧ ((1 ≤ L.length ∧ L.length ≤ 20) ∧ 0 ≤ lo ∧ lo ≤ hi ∧ hi ≤ 1000000000000 ∧ lo ≤ us ∧ us ≤ hi) ∧ manyP s L = false := by
  cases h1 : (validStack s && !badP s L) with
  | false => rw [cf_1 h1] at h; cases h
  | true =>
    by_cases h2 : (1 ≤ L.length ∧ L.length ≤ 20) ∧ 0 ≤ lo ∧ lo ≤ hi ∧ hi ≤ 1000000000000 ∧ lo ≤ us ∧ us ≤ hi
    · cases h3 : manyP s L with
      | true => rw [cf_3 h1 h2 h3] at h; cases h
      | false =>
        rw [Bool.and_eq_true, Bool.not_eq_true'] at h1
        exact ⟨h1.1, h1.2, h2, rfl⟩
    · rw [cf_2 h1 h2] at h; cases h
theorem cf_all {s : List Int} {L : List VPh} {lo hi us : Int} {k : Nat} (h1 : validStack s = true) (hb : badP s L = false) (h2 : (1 ≤ L.length ∧ L.length ≤ 20) ∧ 0 ≤ lo ∧ lo ≤ hi ∧ hi ≤ 1000000000000 ∧ lo ≤ us ∧ us ≤ hi) (hk : ¬ k < L.length) (hall : ∀ i, i < k → decide (400 < choV (L.getD i zPh).l s.length) = false) : codeF s L lo hi us = 0 :=
  cf_0 (by rw [h1, hb]; rfl) h2 (any_no (d := zPh) hk hall)
theorem bad_1 {s : List Int} {L : List VPh} {lo hi us : Int} (h : validStack s = false) : codeF s L lo hi us = 1 := cf_1 (by rw [h]; rfl)
theorem bad_2 {s : List Int} {L : List VPh} {lo hi us : Int} (h : badP s L = true) : codeF s L lo hi us = 1 := cf_1 (by rw [h, Bool.and_comm]; rfl)
theorem bad_3 {s : List Int} {L : List VPh} {lo hi us : Int} (h1 : validStack s = true) (hb : badP s L = false) (h2 : ¬ ((1 ≤ L.length ∧ L.length ≤ 20) ∧ 0 ≤ lo ∧ lo ≤ hi ∧ hi ≤ 1000000000000 ∧ lo ≤ us ∧ us ≤ hi)) : codeF s L lo hi us = 2 := cf_2 (by rw [h1, hb]; rfl) h2
theorem bad_4 {s : List Int} {L : List VPh} {lo hi us : Int} {k : Nat} (h1 : validStack s = true) (hb : badP s L = false) (h2 : (1 ≤ L.length ∧ L.length ≤ 20) ∧ 0 ≤ lo ∧ lo ≤ hi ∧ hi ≤ 1000000000000 ∧ lo ≤ us ∧ us ≤ hi) (hk : k < L.length) (h : 400 < choV (L.getD k zPh).l s.length) : codeF s L lo hi us = 3 :=
  cf_3 (by rw [h1, hb]; rfl) h2 (any_yes (d := zPh) hk (decide_eq_true h))
theorem bad_idx {s : List Int} {L : List VPh} : badP s L = decide (0 ≤ idxF (fun p : VPh => !photoOk s p.l) L) := any_idx
theorem okLp {s : List Int} {L : List VPh} (hL : ∀ k, k < L.length → OkPh (L.getD k zPh)) (h1 : validStack s = true) (hb : badP s L = false) : ∀ k, k < L.length → PhOk s (L.getD k zPh).l := fun k hk => by
  have := any_at (d := zPh) hb hk
  rw [Bool.not_eq_false'] at this
  exact phOk (stk h1) (hL k hk) this
/-! first ones that are good -/
def okK (s : List Int) (L : List VPh) (k : Nat) : Bool := validStack s && (List.range k).all fun i => photoOk s (L.getD i zPh).l
theorem okK_0 (s : List Int) (L : List VPh) : okK s L 0 = validStack s := by unfold okK; simp
theorem okK_s {s : List Int} {L : List VPh} {k : Nat} (h : okK s L k = true) : okK s L (k + 1) = photoOk s (L.getD k zPh).l := by
  unfold okK at h ⊢
  rw [List.range_succ, List.all_append, ← Bool.and_assoc, h]; simp
theorem okK_v {s : List Int} {L : List VPh} {k : Nat} (h : okK s L k = true) : validStack s = true := by unfold okK at h; rw [Bool.and_eq_true] at h; exact h.1
theorem okK_end {s : List Int} {L : List VPh} {k : Nat} (hk : ¬ k < L.length) (h : okK s L k = true) : validStack s = true ∧ badP s L = false := by
  unfold okK at h
  rw [Bool.and_eq_true, List.all_eq_true] at h
  exact ⟨h.1, any_no (d := zPh) hk fun i hi => by rw [h.2 i (by simpa using hi)]; rfl⟩
theorem okK_no {s : List Int} {L : List VPh} {k : Nat} (hk : k ≤ L.length) (h : okK s L k = false) : (validStack s && !badP s L) = false := by
  rw [← Bool.not_eq_true, Bool.and_eq_true]
  rintro ⟨h1, h2⟩
  rw [Bool.not_eq_true'] at h2
  have : okK s L k = true := by
    unfold okK
    rw [Bool.and_eq_true, List.all_eq_true]
    refine ⟨h1, fun i hi => ?_⟩
    have := any_at (d := zPh) h2 (k := i) (by simp at hi; omega)
    simpa using this
  rw [this] at h; cases h
theorem hasB {l : List Int} {n : Int} : (decide (0 ≤ idxF (fun x => decide (n = x)) l)) = l.contains n := by
  rw [← any_idx]
  rw [Bool.eq_iff_iff, List.any_eq_true, List.contains_iff_mem]
  constructor
  · rintro ⟨x, hx, h⟩
    rw [decide_eq_true_iff] at h; subst h; exact hx
  · intro h; exact ⟨n, h, by simp⟩
theorem has_tt {s : List Int} {n : Int} {k : Nat} (hk : k < s.length) (h : s.getD k 0 = n) : true = s.contains n := by
  symm; rw [List.contains_iff_mem]; rw [← h]; exact getD_mem 0 hk
theorem has_ff {s : List Int} {n : Int} {k : Nat} (hk : ¬ k < s.length) (hall : ∀ i, i < k → s.getD i 0 ≠ n) : false = s.contains n := by
  symm; rw [← Bool.not_eq_true, List.contains_iff_mem]; intro h
  obtain ⟨i, hi, he⟩ := List.getElem_of_mem h
  refine hall i (by omega) ?_
  simp [List.getD, hi, he]
theorem has_bd {K : List (VX Int)} {n k : Nat} {v : Int} (h : FK K n) (hk : k < n) (hv : (K.getD k zX).xs.contains v = true) : 0 ≤ v ∧ v < 1000000000000 := by
  rw [List.contains_iff_mem] at hv
  obtain ⟨i, hi, he⟩ := List.getElem_of_mem hv
  have := h.v k i hk
  rw [show (K.getD k zX).xs.getD i 0 = v by rw [List.getD, List.getElem?_eq_getElem hi, he]; rfl] at this
  exact this
end Go.W

/- Ways through films, as the program reckons them. -/
set_option linter.unusedVariables false
set_option linter.unusedSimpArgs false
namespace Go.W
open Go Go.Sx
theorem wo_t {K : List (VX Int)} {lo hi : Int} {v : List Int} {k : Nat} (h1 : (K.getD k zX).xs.contains (v.getD k 0) = true) (h2 : k = 0 ∨ goesB lo hi (v.getD (k - 1) 0) (v.getD k 0) = true) : wayOk lo hi (fun k => (K.getD k zX).xs) v k = true := by
  unfold wayOk
  rw [Bool.and_eq_true]
  refine ⟨h1, ?_⟩
  rw [Bool.or_eq_true, decide_eq_true_iff]; exact h2
theorem wo_f1 {K : List (VX Int)} {lo hi : Int} {v : List Int} {k : Nat} (h1 : (K.getD k zX).xs.contains (v.getD k 0) = false) : wayOk lo hi (fun k => (K.getD k zX).xs) v k = false := by
  unfold wayOk
  rw [show ((fun k => (K.getD k zX).xs) k).contains (v.getD k 0) = false from h1]; rfl
theorem wo_f2 {K : List (VX Int)} {lo hi : Int} {v : List Int} {k : Nat} (hk : 0 < k) (h2 : goesB lo hi (v.getD (k - 1) 0) (v.getD k 0) = false) : wayOk lo hi (fun k => (K.getD k zX).xs) v k = false := by
  unfold wayOk
  rw [h2, decide_eq_false (by omega : ¬ k = 0)]; simp
theorem wo_has {K : List (VX Int)} {lo hi : Int} {v : List Int} {k : Nat} (h : wayOk lo hi (fun k => (K.getD k zX).xs) v k = true) : (K.getD k zX).xs.contains (v.getD k 0) = true := by
  unfold wayOk at h
  rw [Bool.and_eq_true] at h
  exact h.1
theorem ckn {s : List Int} {L : List VPh} {K : List (VX Int)} {v : List Int} {lo hi : Int} {k : Nat} (hx : K.map (·.xs) = filmL s L) (h : codeF s L lo hi lo = 0) (hk : k < L.length) (hw : wayOk lo hi (fun k => (K.getD k zX).xs) v k = false) : checkV s L v lo hi = (false, 0) := by
  rw [kx_fun hx] at hw; exact ck_n h hk hw
theorem cky {s : List Int} {L : List VPh} {K : List (VX Int)} {v : List Int} {lo hi : Int} {k : Nat} (hx : K.map (·.xs) = filmL s L) (h : codeF s L lo hi lo = 0) (hl : v.length = L.length) (hk : ¬ k < v.length) (hall : ∀ i, i < k → wayOk lo hi (fun k => (K.getD k zX).xs) v i = true) : checkV s L v lo hi = (true, 0) := by
  rw [kx_fun hx] at hall; exact ck_y h hl fun i hi => hall i (by omega)
end Go.W

/- What can be reached, row by row. -/
set_option linter.unusedVariables false
set_option linter.unusedSimpArgs false
namespace Go.W
open Go Go.Sx
structure GSt where
  A : Option Addr
  c : Nat
  J : List (VX Bool)
theorem outX_old {α : Type} {K : List (VX α)} {r : VX α} {n i : Nat} (h : i < K.length) : (outX (K ++ [r]) n).getD i zX = K.getD i zX := by
  unfold outX
  rw [List.append_assoc]
  simp only [List.getD, List.getElem?_append_left h]
def curR (lo hi : Int) (F : Nat → List Int) (k i j : Nat) : Bool := if k = 0 then true else reachA lo hi (F (k - 1)) (reachL lo hi F (k - 1)) ((F k).getD i 0) j
def rowQ (lo hi : Int) (F : Nat → List Int) (k i j : Nat) : List Bool := (Sx.part false (reachL lo hi F k) i).set i (curR lo hi F k i j)
theorem rowQ_len {lo hi : Int} {F : Nat → List Int} {k i j : Nat} (h : i ≤ (F k).length) : (rowQ lo hi F k i j).length = (F k).length := by
  unfold rowQ; rw [List.length_set, part_len _ _ _ (by rw [reach_len]; exact h), reach_len]
theorem rowQ_at {lo hi : Int} {F : Nat → List Int} {k i j : Nat} (h : i < (F k).length) : (rowQ lo hi F k i j).getD i false = curR lo hi F k i j := by
  unfold rowQ
  have : i < (Sx.part false (reachL lo hi F k) i).length := by rw [part_len _ _ _ (by rw [reach_len]; omega), reach_len]; exact h
  simp [List.getD, this]
theorem rowQ_0 {lo hi : Int} {F : Nat → List Int} {k i q : Nat} {v : List Value} (h : i < (F k).length) (hq : q = i * 1) (hv : v = eB (decide ((k : Int) = 0))) : put ((Sx.part false (reachL lo hi F k) i).flatMap eB) q v = (rowQ lo hi F k i 0).flatMap eB := by
  subst hq hv
  rw [flat_put eB_len _ _ _ (by rw [part_len _ _ _ (by rw [reach_len]; omega), reach_len]; exact h)]
  unfold rowQ curR
  by_cases hk : k = 0
  · subst hk; simp
  · rw [if_neg hk, ra_0, decide_eq_false (by omega)]
theorem rowQ_s {lo hi : Int} {F : Nat → List Int} {k i j q : Nat} {v : List Value} (h : i < (F k).length) (hq : q = i * 1) (hv : v = eB (curR lo hi F k i (j + 1))) : put ((rowQ lo hi F k i j).flatMap eB) q v = (rowQ lo hi F k i (j + 1)).flatMap eB := by
  subst hq hv
  rw [flat_put eB_len _ _ _ (by rw [rowQ_len (by omega)]; exact h)]
  unfold rowQ; rw [List.set_set]
theorem rowQ_fin {lo hi : Int} {F : Nat → List Int} {k i j : Nat} (h : i < (F k).length) (he : curR lo hi F k i j = (reachL lo hi F k).getD i false) : rowQ lo hi F k i j = Sx.part false (reachL lo hi F k) (i + 1) := by
  unfold rowQ
  rw [he, part_set _ _ _ _ (by rw [reach_len]; exact h)]
theorem cr_0 {lo hi : Int} {F : Nat → List Int} {k i j : Nat} (h : i < (F k).length) (hk : k = 0) : curR lo hi F k i j = (reachL lo hi F k).getD i false := by
  subst hk; rw [reach_0 h]; rfl
theorem cr_len {lo hi : Int} {F : Nat → List Int} {k i j : Nat} (h : i < (F k).length) (hj : j = (F (k - 1)).length) : curR lo hi F k i j = (reachL lo hi F k).getD i false := by
  subst hj
  rcases Nat.eq_zero_or_pos k with hk | hk
  · exact cr_0 h hk
  · obtain ⟨k', rfl⟩ : ∃ k', k = k' + 1 := ⟨k - 1, by omega⟩
    rw [reach_s h]; rfl
theorem cr_t {lo hi : Int} {F : Nat → List Int} {k i j : Nat} (h : i < (F k).length) (hj : j ≤ (F (k - 1)).length) (ht : curR lo hi F k i j = true) : curR lo hi F k i j = (reachL lo hi F k).getD i false := by
  rw [← cr_len h rfl, ht]
  rcases Nat.eq_zero_or_pos k with hk | hk
  · subst hk; rfl
  · unfold curR at ht ⊢
    rw [if_neg (by omega)] at ht ⊢
    exact (ra_true ht hj).symm
theorem cr_st {lo hi : Int} {F : Nat → List Int} {k i j : Nat} (ht : curR lo hi F k i j = true) : true = curR lo hi F k i (j + 1) := by
  unfold curR at ht ⊢
  split at ht
  · rw [if_pos ‹_›]
  · rw [if_neg ‹_›]; exact (ra_true ht (by omega)).symm
theorem cr_sf {lo hi : Int} {F : Nat → List Int} {k i j : Nat} {J : List (VX Bool)} (hR : ∀ i, i < J.length → (J.getD i zX).xs = reachL lo hi F i) (hk : 0 < k) (hkJ : k ≤ J.length) (ht : curR lo hi F k i j = false) (h2 : (J.getD (k - 1) zX).xs.getD j false = false) : false = curR lo hi F k i (j + 1) := by
  unfold curR at ht ⊢
  rw [if_neg (by omega)] at ht ⊢
  rw [hR (k - 1) (by omega)] at h2
  rw [ra_s, ht, h2]; rfl
theorem cr_sg {lo hi : Int} {F : Nat → List Int} {k i j : Nat} {J : List (VX Bool)} (hR : ∀ i, i < J.length → (J.getD i zX).xs = reachL lo hi F i) (hk : 0 < k) (hkJ : k ≤ J.length) (ht : curR lo hi F k i j = false) (h2 : (J.getD (k - 1) zX).xs.getD j false = true) : goesB lo hi ((F (k - 1)).getD j 0) ((F k).getD i 0) = curR lo hi F k i (j + 1) := by
  unfold curR at ht ⊢
  rw [if_neg (by omega)] at ht ⊢
  rw [hR (k - 1) (by omega)] at h2
  rw [ra_s, ht, h2]; simp
theorem cr_z {lo hi : Int} {F : Nat → List Int} {k i j : Nat} (h : curR lo hi F k i j = false) (hk : k = 0) : False := by subst hk; cases h
theorem part_full {lo hi : Int} {F : Nat → List Int} {k i : Nat} (h : i = (F k).length) : Sx.part false (reachL lo hi F k) i = reachL lo hi F k := by rw [h, ← reach_len lo hi F k, part_all]
theorem zrow {lo hi : Int} {F : Nat → List Int} {k n : Nat} (h : n = (F k).length) : zerosL (eB false) n = (Sx.part false (reachL lo hi F k) 0).flatMap eB := zpart eB_len false rfl _ (by rw [h, reach_len])
theorem rk_snoc {lo hi : Int} {F : Nat → List Int} {J : List (VX Bool)} {A : Option Addr} {c : Nat} (hR : ∀ i, i < J.length → (J.getD i zX).xs = reachL lo hi F i) : ∀ i, i < (J ++ [(⟨A, c, reachL lo hi F J.length⟩ : VX Bool)]).length → ((J ++ [(⟨A, c, reachL lo hi F J.length⟩ : VX Bool)]).getD i zX).xs = reachL lo hi F i := fun i hi2 => by
  rcases Nat.lt_or_ge i J.length with h | h
  · rw [show (J ++ [(⟨A, c, reachL lo hi F J.length⟩ : VX Bool)]).getD i zX = J.getD i zX by simp only [List.getD, List.getElem?_append_left h]]
    exact hR i h
  · obtain rfl : i = J.length := by simp at hi2; omega
    simp [List.getD]
theorem any_yesB {l : List Bool} {k : Nat} (hk : k < l.length) (h : l.getD k false = true) : true = l.any id := (any_get.2 ⟨k, hk, h⟩).symm
theorem any_noB {l : List Bool} {k : Nat} (hk : ¬ k < l.length) (h : ∀ i, i < k → l.getD i false = false) : false = l.any id := by
  symm; rw [← Bool.not_eq_true, any_get]; rintro ⟨i, hi, h2⟩; rw [h i (by omega)] at h2; cases h2
theorem svy {s : List Int} {L : List VPh} {K : List (VX Int)} {J : List (VX Bool)} {lo hi : Int} {k : Nat} (hx : K.map (·.xs) = filmL s L) (h : codeF s L lo hi lo = 0) (hJ : ∀ i, i < J.length → (J.getD i zX).xs = reachL lo hi (fun k => (K.getD k zX).xs) i) (hJl : J.length = L.length) (hk : k < L.length) (hall : ∀ i, i < k → (J.getD i zX).xs.any id = true) (hn : (J.getD k zX).xs.any id = false) : stuckV s L lo hi = ((k : Int), 0) := by
  rw [kx_fun hx] at hJ
  exact sv_y h hk (fun i hi => by rw [← hJ i (by omega)]; exact hall i hi) (by rw [← hJ k (by omega)]; exact hn)
theorem svn {s : List Int} {L : List VPh} {K : List (VX Int)} {J : List (VX Bool)} {lo hi : Int} {k : Nat} (hx : K.map (·.xs) = filmL s L) (h : codeF s L lo hi lo = 0) (hJ : ∀ i, i < J.length → (J.getD i zX).xs = reachL lo hi (fun k => (K.getD k zX).xs) i) (hJl : J.length = L.length) (hk : ¬ k < J.length) (hall : ∀ i, i < k → (J.getD i zX).xs.any id = true) : stuckV s L lo hi = (0, 6) := by
  rw [kx_fun hx] at hJ
  exact sv_n h fun i hi => by rw [← hJ i (by omega)]; exact hall i (by omega)
end Go.W

/- How many ways, row by row. -/
set_option linter.unusedVariables false
set_option linter.unusedSimpArgs false
namespace Go.W
open Go Go.Sx
def befL (lo hi : Int) (F : Nat → List Int) : Nat → List Int
  | 0 => []
  | k + 1 => wayL lo hi F k
def totW (lo hi : Int) (F : Nat → List Int) : Nat → Int
  | 0 => 0
  | k + 1 => wTot lo hi F k
theorem bef_pos {lo hi : Int} {F : Nat → List Int} {k j : Nat} (h : j < (befL lo hi F k).length) : 0 < k := by
  cases k with
  | zero => simp [befL] at h
  | succ k => omega
theorem bef_len {lo hi : Int} {F : Nat → List Int} {k : Nat} (h : 0 < k) : (befL lo hi F k).length = (F (k - 1)).length := by
  obtain ⟨k', rfl⟩ : ∃ k', k = k' + 1 := ⟨k - 1, by omega⟩
  rw [befL, way_len]; rfl
theorem bef_s (lo hi : Int) (F : Nat → List Int) (k : Nat) : (befL lo hi F (k + 1)).length = (F k).length := by rw [befL, way_len]
def curW (lo hi : Int) (F : Nat → List Int) (k i j : Nat) : Int := if k = 0 then 1 else wSum lo hi (F (k - 1)) (wayL lo hi F (k - 1)) ((F k).getD i 0) j
def rowW (lo hi : Int) (F : Nat → List Int) (k i j : Nat) : List Int := (Sx.part 0 (wayL lo hi F k) i).set i (curW lo hi F k i j)
theorem partW_len {lo hi : Int} {F : Nat → List Int} {k i : Nat} (h : i ≤ (F k).length) : (Sx.part 0 (wayL lo hi F k) i).length = (F k).length := by rw [part_len _ _ _ (by rw [way_len]; exact h), way_len]
theorem rowW_len {lo hi : Int} {F : Nat → List Int} {k i j : Nat} (h : i ≤ (F k).length) : (rowW lo hi F k i j).length = (F k).length := by unfold rowW; rw [List.length_set, partW_len h]
theorem rowW_at {lo hi : Int} {F : Nat → List Int} {k i j : Nat} (h : i < (F k).length) : (rowW lo hi F k i j).getD i 0 = curW lo hi F k i j := by
  unfold rowW
  have : i < (Sx.part 0 (wayL lo hi F k) i).length := by rw [partW_len (by omega)]; exact h
  simp [List.getD, this]
theorem rowW_0y {lo hi : Int} {F : Nat → List Int} {k i q : Nat} {v : List Value} (h : i < (F k).length) (hk : k = 0) (hq : q = i * 1) (hv : v = eI .i64 1) : put ((Sx.part 0 (wayL lo hi F k) i).flatMap (eI .i64)) q v = (rowW lo hi F k i 0).flatMap (eI .i64) := by
  subst hq hv hk
  rw [flat_put (eI_len .i64) _ _ _ (by rw [partW_len (by omega)]; exact h)]; rfl
theorem rowW_0n {lo hi : Int} {F : Nat → List Int} {k i : Nat} (h : i < (F k).length) (hk : 0 < k) : Sx.part 0 (wayL lo hi F k) i = rowW lo hi F k i 0 := by
  unfold rowW curW
  rw [if_neg (by omega), wSum]
  refine List.ext_getElem? fun j => ?_
  rw [List.getElem?_set]
  split
  · next e =>
    subst e
    rw [partW_len (by omega), if_pos h]
    unfold Sx.part
    rw [List.getElem?_append_right (by simp; omega), List.getElem?_replicate, if_pos (by simp [way_len]; omega)]
  · rfl
theorem rowW_s {lo hi : Int} {F : Nat → List Int} {k i j q : Nat} {v : List Value} (h : i < (F k).length) (hq : q = i * 1) (hv : v = eI .i64 (curW lo hi F k i (j + 1))) : put ((rowW lo hi F k i j).flatMap (eI .i64)) q v = (rowW lo hi F k i (j + 1)).flatMap (eI .i64) := by
  subst hq hv
  rw [flat_put (eI_len .i64) _ _ _ (by rw [rowW_len (by omega)]; exact h)]
  unfold rowW; rw [List.set_set]
theorem cw_y {lo hi : Int} {F : Nat → List Int} {k i j : Nat} (hk : 0 < k) (hg : goesB lo hi ((F (k - 1)).getD j 0) ((F k).getD i 0) = true) : curW lo hi F k i j + (befL lo hi F k).getD j 0 = curW lo hi F k i (j + 1) := by
  obtain ⟨k', rfl⟩ : ∃ k', k = k' + 1 := ⟨k - 1, by omega⟩
  unfold curW
  rw [if_neg (by omega), if_neg (by omega), wSum, if_pos hg]; rfl
theorem cw_n {lo hi : Int} {F : Nat → List Int} {k i j : Nat} (hk : 0 < k) (hg : goesB lo hi ((F (k - 1)).getD j 0) ((F k).getD i 0) = false) : rowW lo hi F k i j = rowW lo hi F k i (j + 1) := by
  unfold rowW curW
  rw [if_neg (by omega), if_neg (by omega), wSum, if_neg (by rw [hg]; decide), Int.add_zero]
theorem rowW_fin {lo hi : Int} {F : Nat → List Int} {k i j : Nat} (h : i < (F k).length) (hj : k = 0 ∨ j = (befL lo hi F k).length) : rowW lo hi F k i j = Sx.part 0 (wayL lo hi F k) (i + 1) := by
  have e : curW lo hi F k i j = (wayL lo hi F k).getD i 0 := by
    rcases Nat.eq_zero_or_pos k with hk | hk
    · subst hk; rw [way_0 h]; rfl
    · obtain ⟨k', rfl⟩ : ∃ k', k = k' + 1 := ⟨k - 1, by omega⟩
      rw [way_s h]
      have : j = (F k').length := by rw [← bef_s lo hi]; omega
      subst this; rfl
  unfold rowW
  rw [e, part_set _ _ _ _ (by rw [way_len]; exact h)]
theorem partW_at {lo hi : Int} {F : Nat → List Int} {k i : Nat} (h : i < (F k).length) : (Sx.part 0 (wayL lo hi F k) (i + 1)).getD i 0 = (wayL lo hi F k).getD i 0 := by
  unfold Sx.part
  have h1 : i < (wayL lo hi F k).length := by rw [way_len]; exact h
  simp only [List.getD]
  rw [List.getElem?_append_left (by simp; omega), List.getElem?_take, if_pos (by omega)]
theorem partW_full {lo hi : Int} {F : Nat → List Int} {k i : Nat} (h : i = (F k).length) : Sx.part 0 (wayL lo hi F k) i = wayL lo hi F k := by rw [h, ← way_len lo hi F k, part_all]
theorem zroW {lo hi : Int} {F : Nat → List Int} {k n : Nat} (h : n = (F k).length) : zerosL (eI .i64 0) n = (Sx.part 0 (wayL lo hi F k) 0).flatMap (eI .i64) := zpart (eI_len .i64) 0 rfl _ (by rw [h, way_len])
theorem curW_bd {lo hi : Int} {F : Nat → List Int} {k i j : Nat} (hov : ∀ i, i < k → wOver lo hi F i = false) (hj : 0 < k → j ≤ (F (k - 1)).length) : 0 ≤ curW lo hi F k i j ∧ curW lo hi F k i j ≤ 1000000000000000 := by
  unfold curW
  split
  · omega
  · have h1 := wSum_bd (lo := lo) (hi := hi) (v := (F k).getD i 0) (pv := F (k - 1)) (way_nn lo hi F (k - 1)) j
    have h2 := sumT_mono (way_nn lo hi F (k - 1)) (hj (by omega))
    have h3 := hov (k - 1) (by omega)
    unfold wOver wTot at h3
    rw [decide_eq_false_iff_not] at h3
    omega
theorem bef_bd {lo hi : Int} {F : Nat → List Int} {k : Nat} (hov : ∀ i, i < k → wOver lo hi F i = false) (j : Nat) : 0 ≤ (befL lo hi F k).getD j 0 ∧ (befL lo hi F k).getD j 0 ≤ 1000000000000000 := by
  cases k with
  | zero => simp [befL]
  | succ k => exact ⟨way_nn lo hi F k j, way_le (fun i hi => hov i (by omega)) j⟩
theorem way_bd {lo hi : Int} {F : Nat → List Int} {k : Nat} (hov : ∀ i, i < k → wOver lo hi F i = false) (i : Nat) : 0 ≤ (wayL lo hi F k).getD i 0 ∧ (wayL lo hi F k).getD i 0 ≤ 1000000000000000 ∧ 0 ≤ sumT (wayL lo hi F k) i ∧ sumT (wayL lo hi F k) i ≤ 1000000000000000 * (i : Int) :=
  ⟨way_nn lo hi F k i, way_le hov i, sumT_0 (way_nn lo hi F k) i, sumT_le (way_le hov) i⟩
theorem over_no {lo hi : Int} {F : Nat → List Int} {k : Nat} (h : sumT (wayL lo hi F k) (F k).length ≤ 1000000000000000) : wOver lo hi F k = false := by
  unfold wOver wTot; rw [decide_eq_false_iff_not]; omega
theorem wvk_3 {s : List Int} {L : List VPh} {K : List (VX Int)} {lo hi : Int} {k i : Nat} (hx : K.map (·.xs) = filmL s L) (h : codeF s L lo hi lo = 0) (hk : k < L.length) (hi2 : i ≤ (K.getD k zX).xs.length) (ho : 1000000000000000 < sumT (wayL lo hi (fun k => (K.getD k zX).xs) k) i) : waysV s L lo hi = (0, 3) := by
  rw [kx_fun hx] at ho
  exact wv_3 h hk (by rw [← kx_at hx]; exact hi2) ho
theorem wvk_0 {s : List Int} {L : List VPh} {K : List (VX Int)} {lo hi : Int} {k : Nat} (hx : K.map (·.xs) = filmL s L) (h : codeF s L lo hi lo = 0) (hk : k = L.length) (h0 : 0 < k) (hall : ∀ i, i < k → wOver lo hi (fun k => (K.getD k zX).xs) i = false) : waysV s L lo hi = (totW lo hi (fun k => (K.getD k zX).xs) k, 0) := by
  rw [kx_fun hx] at hall ⊢
  rw [wv_0 h fun i hi => hall i (by omega)]
  obtain ⟨k', rfl⟩ : ∃ k', k = k' + 1 := ⟨k - 1, by omega⟩
  rw [totW, show L.length - 1 = k' by omega]
end Go.W

/- Slices of slices, copies. -/
set_option linter.unusedVariables false
set_option linter.unusedSimpArgs false
namespace Go.Sx
open Go Go.RowKit
variable {C : Cx} {env : Env} {m : List Ent} {o : Oper} {K : Env → List Ent → Prop}
/-- Where the rest of a slice begins. -/
def cutA (A : Option Addr) (c k sz : Nat) : Option Addr := if c = k then A else offA A (k * sz)
theorem fr_slice_h {T x y E A n c k} {q : Int} (h : Nat) (hq : q = (h : Nat)) (ho : o.op = .slice T x none (some y) none) (hx : ev env x = some (.slice A n c)) (hy : ev env y = some (.int k q)) (hT : C.P.underlying T = some (.slice E)) {sz : Nat} (hs : (C.P.info? E).map (·.size) = some sz) (hb : h ≤ c) : Free C o env m (.slice A h c) := by
  subst hq
  intro a w hr _
  have ht' : C.P.underlying T = some (.slice (C.P.elem T)) := by simp [Program.elem, hT]
  have he : C.P.elem T = E := by simp [Program.elem, hT]
  have h2 := run_slice_h (P := C.P) w T A n c ht' k (h : Int) (by omega) (by omega)
  rw [he, run_sizeOf hs w, Result.andThen_ok] at h2
  have h3 : sliced A 0 ((h : Int).toNat) c sz = .slice A h c := by
    unfold sliced
    rw [Int.toNat_natCast, Nat.zero_mul, Nat.sub_zero, Nat.sub_zero]
    have : A.map (·.add 0) = A := by cases A <;> rfl
    rw [this]; simp
  rw [h3] at h2
  simp only [execOp, ho, hr.ev hx, Option.map_none, Option.map_some, hr.ev hy, run_sliceAt_slice w T _ _ _ _ ht', Sem.run_bind, h2, Result.andThen_ok, Sem.run_pure]
theorem fr_slice_l {T x y E A n c k} {q : Int} (h : Nat) (hq : q = (h : Nat)) (ho : o.op = .slice T x (some y) none none) (hx : ev env x = some (.slice A n c)) (hy : ev env y = some (.int k q)) (hT : C.P.underlying T = some (.slice E)) {sz : Nat} (hs : (C.P.info? E).map (·.size) = some sz) (hb : h ≤ n) : Free C o env m (.slice (cutA A c h sz) (n - h) (c - h)) := by
  subst hq
  intro a w hr _
  have ht' : C.P.underlying T = some (.slice (C.P.elem T)) := by simp [Program.elem, hT]
  have he : C.P.elem T = E := by simp [Program.elem, hT]
  have h2 := run_slice_l (P := C.P) w T A n c ht' k (h : Int) (by omega) (by omega)
  rw [he, run_sizeOf hs w, Result.andThen_ok] at h2
  have h3 : sliced A ((h : Int).toNat) n c sz = .slice (cutA A c h sz) (n - h) (c - h) := by
    unfold sliced cutA offA
    rw [Int.toNat_natCast]
  rw [h3] at h2
  simp only [execOp, ho, hr.ev hx, Option.map_none, Option.map_some, hr.ev hy, run_sliceAt_slice w T _ _ _ _ ht', Sem.run_bind, h2, Result.andThen_ok, Sem.run_pure]
theorem Free.val {k : IntKind} {p : Int} (z : Int) (h : Free C o env m (.int k p)) (e : p = z) : Free C o env m (.int k z) := e ▸ h
theorem fr_slice_lb {T x y E n c k} {q : Int} {b q0 : Nat} (h : Nat) (hq : q = (h : Nat)) (ho : o.op = .slice T x (some y) none none) (hx : ev env x = some (.slice (some ⟨b, q0, none⟩) n c)) (hy : ev env y = some (.int k q)) (hT : C.P.underlying T = some (.slice E)) {sz : Nat} (hs : (C.P.info? E).map (·.size) = some sz) (hb : h ≤ n) (hc : h < c) : Free C o env m (.slice (some ⟨b, q0 + h * sz, none⟩) (n - h) (c - h)) := by
  have := fr_slice_l (C := C) (m := m) h hq ho hx hy hT hs hb
  unfold cutA offA at this
  rw [if_neg (by omega)] at this
  simpa [add_at] using this
theorem op_copyRow {d i b n c E k x y dT sT dLen dCap sLen sCap xs ys} {A : Option Addr} (ho : o.op = .call { callee := .builtin .copy, args := #[x, y], argTypes := #[dT, sT] })
    (hx : ev env x = some (.slice (some ⟨b, k, none⟩) dLen dCap)) (hy : ev env y = some (.slice A sLen sCap)) (hT : C.P.underlying dT = some (.slice E)) (hs : (C.P.info? E).map (·.size) = some 1)
    (hi : m[i]? = some (.row (.slice (some ⟨b, 0, none⟩) n c) E 1 n xs)) (hd : o.dst = some d) (hlt : Nat.blt d C.n = true) (new : List Value) (hn : new.length = min sLen dLen) (hp : 0 < new.length) (hsrc : SegO C m A new) (hk : k + new.length ≤ xs.length) (hone : new.all (·.oneCell') = true) (he : put xs k new = ys)
    (h : K ((d, .int .i64 (new.length : Int)) :: env) (m.set i (.row (.slice (some ⟨b, 0, none⟩) n c) E 1 n ys))) : Op1 C o env m K := by
  subst he
  refine Op1.of_run hd hlt fun a w hr hh => ?_
  have hr0 := hh.all _ (List.mem_of_getElem? hi)
  obtain ⟨ad, rfl, hsc⟩ := hsrc w hh
  rcases hr0.2 with ⟨_, hn0⟩ | ⟨g, cap, cur, hv, hb, hg, hnc, hcm, hcs, ht⟩
  · have := hr0.1; rw [hn0] at this; omega
  · simp only [Value.slice.injEq, Option.some.injEq, Addr.mk.injEq, true_and, and_true] at hv
    obtain ⟨rfl, rfl⟩ := hv
    have hxl : xs.length = n * 1 := hr0.1
    have h1 := run_copy_row (P := C.P) w dT sT o.type E b k dLen dCap ad sLen sCap cur E new hT hs hg hn hsc (by omega) (by simpa using hone)
    refine ⟨_, w.setRow b (cur.toList.take k ++ new ++ cur.toList.drop (k + new.length)).toArray, _, ?_, turn_row hh hi rfl hg rfl ?_, h⟩
    · simp only [execOp, ho, resolve, invoke, builtin, hr.ev hx, hr.ev hy, Sem.run_bind, List.map_toArray, List.map_cons, List.map_nil, h1, Result.andThen_ok, Sem.run_pure]; rfl
    · have hlen : (put xs k new).length = n * 1 := by simp only [put, List.length_append, List.length_take, List.length_drop]; omega
      refine ⟨hlen, .inr ⟨b, c, _, rfl, hb, setRow_heap w b cur _ E _ hg, hnc, hcm, ?_, ?_⟩⟩
      · simp only [List.size_toArray, List.length_append, List.length_take, List.length_drop, Array.length_toList]; omega
      · subst ht
        exact take_put (by omega) (by simp; omega)
theorem seg_row {i b n c : Nat} {E sz : Nat} {xs seg : List Value} (hi : m[i]? = some (.row (.slice (some ⟨b, 0, none⟩) n c) E sz n xs)) (hne : seg ≠ []) (hs : xs.take seg.length = seg) : SegO C m (some ⟨b, 0, none⟩) seg := by
  have := SegO.of (k := 0) (Reads.row (C := C) hi) hne fun j u hj => by
    rw [Nat.zero_add]
    rw [← hs, List.getElem?_take] at hj
    split at hj
    · exact hj
    · cases hj
  exact this
end Go.Sx

/- A number repeated. -/
set_option linter.unusedVariables false
set_option linter.unusedSimpArgs false
namespace Go.W
open Go Go.Sx
theorem and32 {x : Int} (h : 0 ≤ x ∧ x < 18446744073709551616) : bits .and .u64 x 4294967295 = x % 4294967296 := bits_mask .u64 64 (Nat.le_refl _) wrap_u64n 32 (by decide) x h.1 (by have := h.2; omega)
theorem shr32 (x : Int) : x / 2 ^ min (32 : Int).toNat IntKind.u64.bits = x / 4294967296 := rfl
def repP (n : Nat) (a : Int) (k : Nat) : List Int := List.replicate k a ++ List.replicate (n - k) 0
theorem repP_len {n : Nat} {a : Int} {k : Nat} (h : k ≤ n) : (repP n a k).length = n := by unfold repP; simp; omega
theorem repP_all (n : Nat) (a : Int) : repP n a n = List.replicate n a := by unfold repP; simp
theorem repl_flat (a : Int) (n : Nat) : (List.replicate n a).flatMap (eI .i64) = List.replicate n (Value.int .i64 a) := by
  induction n with
  | zero => rfl
  | succ n ih => rw [List.replicate_succ, List.flatMap_cons, ih, List.replicate_succ]; rfl
theorem repP_flat (n : Nat) (a : Int) (k : Nat) : (repP n a k).flatMap (eI .i64) = List.replicate k (Value.int .i64 a) ++ List.replicate (n - k) (Value.int .i64 0) := by
  unfold repP; rw [List.flatMap_append, repl_flat, repl_flat]
theorem repP_put {n : Nat} {a : Int} {k j q : Nat} (h : k + j ≤ n) (hq : q = k) : put ((repP n a k).flatMap (eI .i64)) q (List.replicate j (Value.int .i64 a)) = (repP n a (k + j)).flatMap (eI .i64) := by
  subst hq
  rw [repP_flat, repP_flat]
  simp only [put]
  rw [List.take_append_of_le_length (by simp), List.take_of_length_le (by simp), List.length_replicate, List.drop_append, List.length_replicate, List.drop_of_length_le (by simp), List.nil_append, List.drop_replicate, List.replicate_append_replicate]
  congr 2; omega
theorem rep_first {n : Nat} {a : Int} (h : 1 ≤ n) : put (zerosL (eI .i64 0) n) 0 [Value.int .i64 a] = (repP n a 1).flatMap (eI .i64) := by
  rw [zeros_flat (eI_len .i64) 0 (by omega) n]
  exact repP_put (k := 0) (j := 1) (by omega) rfl
theorem rep_room {n : Nat} {a : Int} (h : 1 ≤ n) : 0 + [Value.int .i64 a].length ≤ (zerosL [Value.int .i64 0] n).length := by
  show 0 + 1 ≤ (zerosL (eI .i64 0) n).length
  rw [zeros_flat (eI_len .i64) 0 (by omega), flat_len (eI_len .i64), List.length_replicate]; omega
theorem rep_seg {n : Nat} {a : Int} {k j : Nat} (h : j ≤ k) : ((repP n a k).flatMap (eI .i64)).take (List.replicate j (Value.int .i64 a)).length = List.replicate j (Value.int .i64 a) := by
  rw [repP_flat, List.length_replicate, List.take_append_of_le_length (by simpa using h), List.take_replicate, Nat.min_eq_left h]
theorem rep_one {C : Cx} {m : List Ent} {A : Option Addr} {a : Int} (H : Reads C m A ([a].flatMap (eI .i64))) : SegO C m A [Value.int .i64 a] := by
  have h := SegO.of (k := 0) (seg := [Value.int .i64 a]) H (by simp) (fun j u hj => by rw [Nat.zero_add]; exact hj)
  have e : offA A 0 = A := by cases A <;> rfl
  rwa [e] at h
theorem rep_all1 (a : Int) (j : Nat) : (List.replicate j (Value.int .i64 a)).all (·.oneCell') = true := by
  rw [List.all_eq_true]; intro x hx; rw [List.eq_of_mem_replicate hx]; rfl
end Go.W

/- Least sums to the end, row by row from the last. -/
set_option linter.unusedVariables false
set_option linter.unusedSimpArgs false
namespace Go.W
open Go Go.Sx
/-! a list of lists that is filled from the end -/
def outE {α : Type} (J : List (VX α)) (n : Nat) : List (VX α) := (List.range n).map fun k => J.getD (n - 1 - k) zX
theorem outE_len {α : Type} (J : List (VX α)) (n : Nat) : (outE J n).length = n := by simp [outE]
theorem outE_at {α : Type} {J : List (VX α)} {n k : Nat} (h : k < n) : (outE J n).getD k zX = J.getD (n - 1 - k) zX := by simp [outE, List.getD, h]
theorem outE_set {α : Type} {J : List (VX α)} {n : Nat} (r : VX α) (h : J.length < n) : (outE J n).set (n - 1 - J.length) r = outE (J ++ [r]) n := by
  refine List.ext_getElem (by simp [outE]) fun k h1 h2 => ?_
  have hk : k < n := by simpa [outE] using h2
  rw [List.getElem_set]
  simp only [outE, List.getElem_map, List.getElem_range]
  by_cases e : n - 1 - J.length = k
  · subst e
    rw [if_pos rfl, show n - 1 - (n - 1 - J.length) = J.length by omega]
    simp [List.getD]
  · rw [if_neg e]
    rcases Nat.lt_or_ge (n - 1 - k) J.length with h3 | h3
    · simp only [List.getD, List.getElem?_append_left h3]
    · simp only [List.getD]
      rw [List.getElem?_eq_none h3, List.getElem?_eq_none (by simp; omega)]
theorem outE_put {α : Type} {J : List (VX α)} {n i : Nat} {v : List Value} (r : VX α) (h : J.length < n) (hi : i = (n - 1 - J.length) * 1) (hv : v = encX r) : put ((outE J n).flatMap encX) i v = (outE (J ++ [r]) n).flatMap encX := by
  subst hi hv
  rw [flat_put encX_len _ _ _ (by rw [outE_len]; omega), outE_set r h]
theorem zoutE {α : Type} {zs : List Value} {n : Nat} (h : zs = encX (zX : VX α)) : zerosL zs n = (outE ([] : List (VX α)) n).flatMap encX := by
  subst h
  rw [zeros_flat encX_len zX (by omega) n]
  congr 1
  refine List.ext_getElem (by simp [outE]) fun k h1 h2 => by simp [outE]
theorem outE_last {α : Type} {J : List (VX α)} {r : VX α} {n : Nat} (h : J.length < n) : (outE (J ++ [r]) n).getD (n - 1 - J.length) zX = r := by
  rw [outE_at (by omega), show n - 1 - (n - 1 - J.length) = J.length by omega]; simp [List.getD]
theorem outE_next {α : Type} {J : List (VX α)} {r : VX α} {n : Nat} (h : J.length < n) (h0 : 0 < J.length) : (outE (J ++ [r]) n).getD (n - 1 - J.length + 1) zX = J.getD (J.length - 1) zX := by
  rw [outE_at (by omega), show n - 1 - (n - 1 - J.length + 1) = J.length - 1 by omega]
  simp only [List.getD, List.getElem?_append_left (show J.length - 1 < J.length by omega)]
theorem outE_prev {α : Type} {J : List (VX α)} {n : Nat} (h : J.length < n) (h0 : 0 < J.length) : (outE J n).getD (n - 1 - J.length + 1) zX = J.getD (J.length - 1) zX := by
  rw [outE_at (by omega), show n - 1 - (n - 1 - J.length + 1) = J.length - 1 by omega]
/-! rows of sums -/
def curC (lo hi us : Int) (F : Nat → List Int) (n t i j : Nat) : Int := minC lo hi us ((F (n - 1 - t)).getD i 0) (F (n - 1 - t + 1)) (costL lo hi us F n (t - 1)) j
def rowC (z lo hi us : Int) (F : Nat → List Int) (n t i j : Nat) : List Int := (Sx.part z (costL lo hi us F n t) i).set i (curC lo hi us F n t i j)
variable {z lo hi us : Int} {F : Nat → List Int} {n t i j : Nat}
theorem cost_k (h0 : 0 < t) (ht : t < n) (h : i < (F (n - 1 - t)).length) : (costL lo hi us F n t).getD i 0 = curC lo hi us F n t i (F (n - 1 - t + 1)).length := by
  obtain ⟨t', rfl⟩ : ∃ t', t = t' + 1 := ⟨t - 1, by omega⟩
  have e1 : n - 2 - t' = n - 1 - (t' + 1) := by omega
  have e2 : n - 1 - t' = n - 1 - (t' + 1) + 1 := by omega
  rw [cost_s (by rw [e1]; exact h), e1, e2]; rfl
theorem cost_ln (ht : t < n) : (costL lo hi us F n t).length = (F (n - 1 - t)).length := cost_len lo hi us F n t ht
theorem partC_len (ht : t < n) (h : i ≤ (F (n - 1 - t)).length) : (Sx.part z (costL lo hi us F n t) i).length = (F (n - 1 - t)).length := by rw [part_len _ _ _ (by rw [cost_ln ht]; exact h), cost_ln ht]
theorem rowC_len (ht : t < n) (h : i ≤ (F (n - 1 - t)).length) : (rowC z lo hi us F n t i j).length = (F (n - 1 - t)).length := by unfold rowC; rw [List.length_set, partC_len ht h]
theorem rowC_at (ht : t < n) (h : i < (F (n - 1 - t)).length) : (rowC z lo hi us F n t i j).getD i 0 = curC lo hi us F n t i j := by
  unfold rowC
  have : i < (Sx.part z (costL lo hi us F n t) i).length := by rw [partC_len ht (by omega)]; exact h
  simp [List.getD, this]
theorem rowC_0 (ht : t < n) (h : i < (F (n - 1 - t)).length) : Sx.part (-1) (costL lo hi us F n t) i = rowC (-1) lo hi us F n t i 0 := by
  unfold rowC curC
  rw [minC]
  refine List.ext_getElem? fun j => ?_
  rw [List.getElem?_set]
  split
  · next e =>
    subst e
    rw [partC_len ht (by omega), if_pos h]
    unfold Sx.part
    rw [List.getElem?_append_right (by simp; omega), List.getElem?_replicate, if_pos (by simp [cost_ln ht]; omega)]
  · rfl
theorem rowC_00 {q : Nat} {v : List Value} (ht : t < n) (h : i < (F (n - 1 - t)).length) (hq : q = i * 1) (hv : v = eI .i64 (-1)) : put ((Sx.part z (costL lo hi us F n t) i).flatMap (eI .i64)) q v = (rowC z lo hi us F n t i 0).flatMap (eI .i64) := by
  subst hq hv
  rw [flat_put (eI_len .i64) _ _ _ (by rw [partC_len ht (by omega)]; exact h)]; rfl
theorem rowC_s {q : Nat} {v : List Value} (ht : t < n) (h : i < (F (n - 1 - t)).length) (hq : q = i * 1) (hv : v = eI .i64 (curC lo hi us F n t i (j + 1))) : put ((rowC z lo hi us F n t i j).flatMap (eI .i64)) q v = (rowC z lo hi us F n t i (j + 1)).flatMap (eI .i64) := by
  subst hq hv
  rw [flat_put (eI_len .i64) _ _ _ (by rw [rowC_len ht (by omega)]; exact h)]
  unfold rowC; rw [List.set_set]
theorem rowC_fin (h0 : 0 < t) (ht : t < n) (h : i < (F (n - 1 - t)).length) (hj : j = (F (n - 1 - t + 1)).length) : rowC z lo hi us F n t i j = Sx.part z (costL lo hi us F n t) (i + 1) := by
  unfold rowC
  rw [hj, ← cost_k h0 ht h, part_set _ _ _ _ (by rw [cost_ln ht]; exact h)]
theorem partC_full (ht : t < n) (h : i = (F (n - 1 - t)).length) : Sx.part z (costL lo hi us F n t) i = costL lo hi us F n t := by rw [h, ← cost_ln (lo := lo) (hi := hi) (us := us) ht, part_all]
theorem partC_z : Sx.part 0 (costL lo hi us F n 0) i = costL lo hi us F n 0 := by
  refine List.ext_getElem? fun q => ?_
  have hl : (costL lo hi us F n 0) = (F (n - 1)).map fun _ => 0 := rfl
  unfold Sx.part
  rw [hl]
  rcases Nat.lt_or_ge q (min i (F (n - 1)).length) with h | h
  · rw [List.getElem?_append_left (by simp; omega), List.getElem?_take, if_pos (by omega)]
  · rw [List.getElem?_append_right (by simp; omega), List.getElem?_replicate, List.getElem?_map]
    rcases Nat.lt_or_ge q (F (n - 1)).length with h2 | h2
    · rw [if_pos (by simp; omega), List.getElem?_eq_getElem h2]; rfl
    · rw [if_neg (by simp; omega), List.getElem?_eq_none h2]; rfl
theorem partC_any (ht : t < n) (h : t = 0 ∨ i = (F (n - 1 - t)).length) : Sx.part 0 (costL lo hi us F n t) i = costL lo hi us F n t := by
  rcases h with h | h
  · subst h; exact partC_z
  · exact partC_full ht h
theorem zrowC {N : Nat} (ht : t < n) (h : N = (F (n - 1 - t)).length) : zerosL (eI .i64 0) N = (Sx.part 0 (costL lo hi us F n t) 0).flatMap (eI .i64) := zpart (eI_len .i64) 0 rfl _ (by rw [h, cost_ln ht])
theorem zrowC0 {N : Nat} (hn : 0 < n) (h : N = (F (n - 1)).length) : zerosL (eI .i64 0) N = (costL lo hi us F n 0).flatMap (eI .i64) := by
  rw [zrowC (lo := lo) (hi := hi) (us := us) (n := n) (t := 0) (F := F) hn h, partC_z]
theorem repC {N : Nat} (ht : t < n) (h : N = (F (n - 1 - t)).length) : List.replicate N (-1) = Sx.part (-1) (costL lo hi us F n t) 0 := by
  rw [part_zero, cost_ln ht, h]
theorem rk_cost {J : List (VX Int)} {A : Option Addr} {c : Nat} (hR : ∀ i, i < J.length → (J.getD i zX).xs = costL lo hi us F n i) : ∀ i, i < (J ++ [(⟨A, c, costL lo hi us F n J.length⟩ : VX Int)]).length → ((J ++ [(⟨A, c, costL lo hi us F n J.length⟩ : VX Int)]).getD i zX).xs = costL lo hi us F n i := fun i hi2 => by
  rcases Nat.lt_or_ge i J.length with h | h
  · rw [show (J ++ [(⟨A, c, costL lo hi us F n J.length⟩ : VX Int)]).getD i zX = J.getD i zX by simp only [List.getD, List.getElem?_append_left h]]
    exact hR i h
  · obtain rfl : i = J.length := by simp at hi2; omega
    simp [List.getD]
theorem rk_one {A : Option Addr} {c : Nat} : ∀ i, i < [(⟨A, c, costL lo hi us F n 0⟩ : VX Int)].length → ([(⟨A, c, costL lo hi us F n 0⟩ : VX Int)].getD i zX).xs = costL lo hi us F n i := fun i hi2 => by
  obtain rfl : i = 0 := by simp at hi2; omega
  rfl
theorem cc_n {J : List (VX Int)} (hR : ∀ i, i < J.length → (J.getD i zX).xs = costL lo hi us F n i) (h0 : 0 < J.length) (h : (J.getD (J.length - 1) zX).xs.getD j 0 < 0 ∨ goesB lo hi ((F (n - 1 - J.length)).getD i 0) ((F (n - 1 - J.length + 1)).getD j 0) = false) : rowC z lo hi us F n J.length i j = rowC z lo hi us F n J.length i (j + 1) := by
  rw [hR _ (by omega)] at h
  unfold rowC curC; rw [mc_n h]
theorem cc_y {J : List (VX Int)} (hR : ∀ i, i < J.length → (J.getD i zX).xs = costL lo hi us F n i) (h0 : 0 < J.length) (h : ¬ (J.getD (J.length - 1) zX).xs.getD j 0 < 0) (hg : goesB lo hi ((F (n - 1 - J.length)).getD i 0) ((F (n - 1 - J.length + 1)).getD j 0) = true)
    (h3 : curC lo hi us F n J.length i j < 0 ∨ (J.getD (J.length - 1) zX).xs.getD j 0 + absW ((F (n - 1 - J.length + 1)).getD j 0 - (F (n - 1 - J.length)).getD i 0 - us) < curC lo hi us F n J.length i j) : (J.getD (J.length - 1) zX).xs.getD j 0 + absW ((F (n - 1 - J.length + 1)).getD j 0 - (F (n - 1 - J.length)).getD i 0 - us) = curC lo hi us F n J.length i (j + 1) := by
  rw [hR _ (by omega)] at h h3 ⊢
  unfold curC at h3 ⊢; rw [mc_y h hg h3]
theorem cc_k {J : List (VX Int)} (hR : ∀ i, i < J.length → (J.getD i zX).xs = costL lo hi us F n i) (h0 : 0 < J.length)
    (h3 : ¬ (curC lo hi us F n J.length i j < 0 ∨ (J.getD (J.length - 1) zX).xs.getD j 0 + absW ((F (n - 1 - J.length + 1)).getD j 0 - (F (n - 1 - J.length)).getD i 0 - us) < curC lo hi us F n J.length i j)) : rowC z lo hi us F n J.length i j = rowC z lo hi us F n J.length i (j + 1) := by
  rw [hR _ (by omega)] at h3
  unfold rowC; unfold curC at h3 ⊢; rw [mc_k h3]
theorem fk_all {K : List (VX Int)} {n : Nat} (h : FK K n) : ∀ k q, 0 ≤ (K.getD k zX).xs.getD q 0 ∧ (K.getD k zX).xs.getD q 0 ≤ 1000000000000 := fun k q => by
  rcases Nat.lt_or_ge k n with hk | hk
  · have := h.v k q hk; omega
  · have hl := h.len
    rw [show K.getD k zX = zX by simp only [List.getD]; rw [List.getElem?_eq_none (by omega)]; rfl]
    simp [zX]
theorem cur_bd (hF : ∀ k q, 0 ≤ (F k).getD q 0 ∧ (F k).getD q 0 ≤ 1000000000000) (hu : 0 ≤ us ∧ us ≤ 1000000000000) (ht : t ≤ 20) : -1 ≤ curC lo hi us F n t i j ∧ curC lo hi us F n t i j ≤ 50000000000000 := by
  unfold curC
  refine ⟨mc_lo .., ?_⟩
  have h1 := mc_hi (lo := lo) (hi := hi) (us := us) (v := (F (n - 1 - t)).getD i 0) (nv := F (n - 1 - t + 1)) (nc := costL lo hi us F n (t - 1)) (B := 2000000000000 * ((t - 1 : Nat) : Int)) (by omega) (cost_hi hF hu (t - 1)) (hF _ _) (hF _) hu j
  omega
theorem co_bd {J : List (VX Int)} (hF : ∀ k q, 0 ≤ (F k).getD q 0 ∧ (F k).getD q 0 ≤ 1000000000000) (hu : 0 ≤ us ∧ us ≤ 1000000000000) (hR : ∀ i, i < J.length → (J.getD i zX).xs = costL lo hi us F n i) (hJ : J.length ≤ 20) {k : Nat} (hk : k < J.length) (q : Nat) : -1 ≤ (J.getD k zX).xs.getD q 0 ∧ (J.getD k zX).xs.getD q 0 ≤ 50000000000000 := by
  rw [hR k hk]
  have h1 := cost_lo lo hi us F n k q
  have h2 := cost_hi (lo := lo) (hi := hi) (n := n) hF hu k q
  omega
theorem abs_bd {a b u : Int} (ha : 0 ≤ a ∧ a ≤ 1000000000000) (hb : 0 ≤ b ∧ b ≤ 1000000000000) (hu : 0 ≤ u ∧ u ≤ 1000000000000) : 0 ≤ absW (b - a - u) ∧ absW (b - a - u) ≤ 2000000000000 := by unfold absW; split <;> omega
theorem goes_t {lo hi a b : Int} (h : lo ≤ b - a ∧ b - a ≤ hi) : goesB lo hi a b = true := decide_eq_true h
theorem goes_f {lo hi a b : Int} (h : ¬ (lo ≤ b - a ∧ b - a ≤ hi)) : goesB lo hi a b = false := decide_eq_false h
end Go.W

/- The likeliest way. -/
set_option linter.unusedVariables false
set_option linter.unusedSimpArgs false
namespace Go.W
open Go Go.Sx
theorem bk_y {c : List Int} {i : Nat} (h : 0 ≤ c.getD i 0) (h2 : bestK c i < 0 ∨ c.getD i 0 < c.getD (bestK c i).toNat 0) : bestK c (i + 1) = i := by rw [bestK, if_pos ⟨h, h2⟩]
theorem bk_n {c : List Int} {i : Nat} (h : ¬ (0 ≤ c.getD i 0 ∧ (bestK c i < 0 ∨ c.getD i 0 < c.getD (bestK c i).toNat 0))) : bestK c (i + 1) = bestK c i := by rw [bestK, if_neg h]
theorem bc_y {c : List Int} {i : Nat} (h : 0 ≤ c.getD i 0) (h2 : bestC c i < 0 ∨ c.getD i 0 < bestC c i) : bestC c (i + 1) = c.getD i 0 := by rw [bestC, if_pos ⟨h, h2⟩]
theorem bc_n {c : List Int} {i : Nat} (h : ¬ (0 ≤ c.getD i 0 ∧ (bestC c i < 0 ∨ c.getD i 0 < bestC c i))) : bestC c (i + 1) = bestC c i := by rw [bestC, if_neg h]
theorem bk_first (c : List Int) : ∀ (i j : Nat), (j : Int) < bestK c i → c.getD j 0 < 0 ∨ c.getD (bestK c i).toNat 0 < c.getD j 0
  | 0, j, h => by simp [bestK] at h; omega
  | i + 1, j, h => by
    have ih := bk_first c i j
    have hb := bk_bd c i
    have hall : ∀ (q : Nat), q < i → 0 ≤ c.getD q 0 → 0 ≤ bestK c i ∧ c.getD (bestK c i).toNat 0 ≤ c.getD q 0 := by
      intro q hq h0
      have key : ∀ i, q < i → 0 ≤ bestK c i ∧ c.getD (bestK c i).toNat 0 ≤ c.getD q 0 := by
        intro i
        induction i with
        | zero => intro h; omega
        | succ i ihi =>
          intro hqi
          have hn := bk_nn c i
          rcases Nat.lt_or_ge q i with h1 | h1
          · have := ihi h1
            rw [bestK]; split
            · next h2 => rw [Int.toNat_natCast]; rcases h2.2 with h3 | h3 <;> omega
            · exact this
          · obtain rfl : q = i := by omega
            rw [bestK]; split
            · next h2 => rw [Int.toNat_natCast]; omega
            · next h2 =>
              have : 0 ≤ bestK c q := by omega
              omega
      exact key i hq
    rw [bestK] at h ⊢
    split at h
    · next h2 =>
      rw [if_pos h2, Int.toNat_natCast]
      by_cases h0 : c.getD j 0 < 0
      · exact .inl h0
      · have := hall j (by omega) (by omega)
        rcases h2.2 with h3 | h3 <;> omega
    · next h2 => rw [if_neg h2]; exact ih h
def okA (lo hi us : Int) (F C : Nat → List Int) (bv : Int) (k i j : Nat) : Bool :=
  if k = 0 then decide (0 ≤ (C 0).getD j 0 ∧ (C 0).getD j 0 = bv)
  else decide ((0 ≤ (C k).getD j 0 ∧ goesB lo hi ((F (k - 1)).getD i 0) ((F k).getD j 0) = true) ∧ (C k).getD j 0 + absW ((F k).getD j 0 - (F (k - 1)).getD i 0 - us) = (C (k - 1)).getD i 0)
def idxP (lo hi us : Int) (F C : Nat → List Int) : Nat → Nat
  | 0 => (bestK (C 0) (F 0).length).toNat
  | k + 1 => ((List.range (F (k + 1)).length).find? (okA lo hi us F C 0 (k + 1) (idxP lo hi us F C k))).getD 0
def bestV (F C : Nat → List Int) : Int := bestC (C 0) (F 0).length
structure PathAt (lo hi us : Int) (F C : Nat → List Int) (k : Nat) : Prop where
  lt : idxP lo hi us F C k < (F k).length
  nn : 0 ≤ (C k).getD (idxP lo hi us F C k) 0
  ok : okA lo hi us F C (bestV F C) k (idxP lo hi us F C (k - 1)) (idxP lo hi us F C k) = true
  fst : ∀ j, j < idxP lo hi us F C k → okA lo hi us F C (bestV F C) k (idxP lo hi us F C (k - 1)) j = false
theorem path_ok {lo hi us : Int} {F C : Nat → List Int} {n : Nat} (hb : 0 ≤ bestK (C 0) (F 0).length) (hC : ∀ k, k + 1 < n → ∀ i, i < (F k).length → (C k).getD i 0 = minC lo hi us ((F k).getD i 0) (F (k + 1)) (C (k + 1)) (F (k + 1)).length) : ∀ k, k < n → PathAt lo hi us F C k
  | 0, hk => by
    have h1 := bk_bd (C 0) (F 0).length
    have h2 := bk_nn (C 0) (F 0).length hb
    have h3 := bk_bc (C 0) (F 0).length
    have e : bestV F C = (C 0).getD (bestK (C 0) (F 0).length).toNat 0 := by unfold bestV; rcases h3 with h3 | h3 <;> omega
    refine ⟨by show (bestK (C 0) (F 0).length).toNat < _; omega, h2, ?_, fun j hj => ?_⟩
    · unfold okA; rw [if_pos rfl, decide_eq_true_iff]; exact ⟨h2, e.symm⟩
    · unfold okA; rw [if_pos rfl, decide_eq_false_iff_not, e]
      have hj2 : j < (bestK (C 0) (F 0).length).toNat := hj
      have := bk_first (C 0) (F 0).length j (by omega)
      omega
  | k + 1, hk => by
    have ih := path_ok hb hC k (by omega)
    have h1 := hC k hk _ ih.lt
    have h2 := ih.nn
    rw [h1] at h2
    obtain ⟨j, hj, h3, h4, h5⟩ := mc_at h2
    have hok : okA lo hi us F C 0 (k + 1) (idxP lo hi us F C k) j = true := by
      unfold okA; rw [if_neg (by omega), decide_eq_true_iff, Nat.add_sub_cancel]
      exact ⟨⟨h3, h4⟩, by rw [h5, h1]⟩
    have hs : ((List.range (F (k + 1)).length).find? (okA lo hi us F C 0 (k + 1) (idxP lo hi us F C k))).isSome = true := by
      rw [List.find?_isSome]; exact ⟨j, by simpa using hj, hok⟩
    obtain ⟨i, hi2⟩ := Option.isSome_iff_exists.1 hs
    have e : idxP lo hi us F C (k + 1) = i := by rw [idxP, hi2]; rfl
    rw [List.find?_range_eq_some] at hi2
    have hbv : ∀ j, okA lo hi us F C (bestV F C) (k + 1) (idxP lo hi us F C k) j = okA lo hi us F C 0 (k + 1) (idxP lo hi us F C k) j := fun j => by unfold okA; rw [if_neg (by omega), if_neg (by omega)]
    have hi3 := hi2.1
    refine ⟨by rw [e]; simpa using hi2.2.1, ?_, by rw [e, Nat.add_sub_cancel, hbv]; exact hi3, fun j hj => ?_⟩
    · unfold okA at hi3
      rw [if_neg (by omega), decide_eq_true_iff] at hi3
      rw [e]; exact hi3.1.1
    · rw [Nat.add_sub_cancel, hbv]
      have := hi2.2.2 j (by omega)
      simpa using this
theorem idx_eq {lo hi us : Int} {F C : Nat → List Int} {k j : Nat} (h : PathAt lo hi us F C k) (hall : ∀ i, i < j → okA lo hi us F C (bestV F C) k (idxP lo hi us F C (k - 1)) i = false) (hj : okA lo hi us F C (bestV F C) k (idxP lo hi us F C (k - 1)) j = true) : idxP lo hi us F C k = j := by
  rcases Nat.lt_trichotomy (idxP lo hi us F C k) j with h1 | h1 | h1
  · have := hall _ h1; rw [h.ok] at this; cases this
  · exact h1
  · have := h.fst j h1; rw [hj] at this; cases this
theorem idx_no {lo hi us : Int} {F C : Nat → List Int} {k j : Nat} (h : PathAt lo hi us F C k) (hall : ∀ i, i < j → okA lo hi us F C (bestV F C) k (idxP lo hi us F C (k - 1)) i = false) (hj : ¬ j < (F k).length) : False := by
  have := hall _ (show idxP lo hi us F C k < j by have := h.lt; omega)
  rw [h.ok] at this; cases this
def outQ (lo hi us : Int) (F C : Nat → List Int) (k : Nat) : List Int := (List.range k).map fun q => (F q).getD (idxP lo hi us F C q) 0
theorem outQ_len (lo hi us : Int) (F C : Nat → List Int) (k : Nat) : (outQ lo hi us F C k).length = k := by simp [outQ]
theorem outQ_s {lo hi us : Int} {F C : Nat → List Int} {k j : Nat} (h : idxP lo hi us F C k = j) : outQ lo hi us F C (k + 1) = outQ lo hi us F C k ++ [(F k).getD j 0] := by
  subst h; unfold outQ; rw [List.range_succ, List.map_append]; rfl
theorem outQ_at {lo hi us : Int} {F C : Nat → List Int} {k q : Nat} (h : q < k) : (outQ lo hi us F C k).getD q 0 = (F q).getD (idxP lo hi us F C q) 0 := by
  simp [outQ, List.getD, h]
def leftQ (lo hi us : Int) (F C : Nat → List Int) : Nat → Int
  | 0 => bestV F C
  | k + 1 => (C k).getD (idxP lo hi us F C k) 0
theorem left_p {lo hi us : Int} {F C : Nat → List Int} {k : Nat} (h : 0 < k) : leftQ lo hi us F C k = (C (k - 1)).getD (idxP lo hi us F C (k - 1)) 0 := by
  obtain ⟨k', rfl⟩ : ∃ k', k = k' + 1 := ⟨k - 1, by omega⟩
  rfl
theorem ok_n1 {lo hi us bv : Int} {F C : Nat → List Int} {k i j : Nat} (h : (C k).getD j 0 < 0) : okA lo hi us F C bv k i j = false := by
  unfold okA; split
  · next hk => subst hk; rw [decide_eq_false_iff_not]; omega
  · rw [decide_eq_false_iff_not]; rintro ⟨⟨h1, _⟩, _⟩; omega
theorem ok_n2 {lo hi us bv : Int} {F C : Nat → List Int} {k i j : Nat} (hk : 0 < k) (h : goesB lo hi ((F (k - 1)).getD i 0) ((F k).getD j 0) = false) : okA lo hi us F C bv k i j = false := by
  unfold okA; rw [if_neg (by omega), decide_eq_false_iff_not]; rintro ⟨⟨_, h1⟩, _⟩; rw [h] at h1; cases h1
theorem ok_n3 {lo hi us bv : Int} {F C : Nat → List Int} {k i j : Nat} (hk : 0 < k) (h : ¬ (C k).getD j 0 + absW ((F k).getD j 0 - (F (k - 1)).getD i 0 - us) = leftQ lo hi us F C k) (hi2 : i = idxP lo hi us F C (k - 1)) : okA lo hi us F C bv k i j = false := by
  subst hi2
  rw [left_p hk] at h
  unfold okA; rw [if_neg (by omega), decide_eq_false_iff_not]; rintro ⟨_, h1⟩; exact h h1
theorem ok_y {lo hi us bv : Int} {F C : Nat → List Int} {k i j : Nat} (hk : 0 < k) (h0 : 0 ≤ (C k).getD j 0) (hg : goesB lo hi ((F (k - 1)).getD i 0) ((F k).getD j 0) = true) (h : (C k).getD j 0 + absW ((F k).getD j 0 - (F (k - 1)).getD i 0 - us) = leftQ lo hi us F C k) (hi2 : i = idxP lo hi us F C (k - 1)) : okA lo hi us F C bv k i j = true := by
  subst hi2
  rw [left_p hk] at h
  unfold okA; rw [if_neg (by omega), decide_eq_true_iff]; exact ⟨⟨h0, hg⟩, h⟩
theorem ok_0n {lo hi us : Int} {F C : Nat → List Int} {k i j : Nat} (hk : k = 0) (h : ¬ (C k).getD j 0 + 0 = leftQ lo hi us F C k) : okA lo hi us F C (bestV F C) k i j = false := by
  subst hk
  unfold okA; rw [if_pos rfl, decide_eq_false_iff_not]; rintro ⟨_, h1⟩
  have h2 : leftQ lo hi us F C 0 = bestV F C := rfl
  omega
theorem ok_0y {lo hi us : Int} {F C : Nat → List Int} {k i j : Nat} (hk : k = 0) (h0 : 0 ≤ (C k).getD j 0) (h : (C k).getD j 0 + 0 = leftQ lo hi us F C k) : okA lo hi us F C (bestV F C) k i j = true := by
  subst hk
  have h2 : leftQ lo hi us F C 0 = bestV F C := rfl
  unfold okA; rw [if_pos rfl, decide_eq_true_iff]; exact ⟨h0, by omega⟩
/-! the statement's own words -/
def cosF (s : List Int) (L : List VPh) (lo hi us : Int) (k : Nat) : List Int := costL lo hi us (filmF s L) L.length (L.length - 1 - k)
def likV (s : List Int) (L : List VPh) (lo hi us : Int) : List Int × Int × Int :=
  if codeF s L lo hi us ≠ 0 then ([], 0, codeF s L lo hi us)
  else if bestV (filmF s L) (cosF s L lo hi us) < 0 then ([], 0, 6)
  else (outQ lo hi us (filmF s L) (cosF s L lo hi us) L.length, bestV (filmF s L) (cosF s L lo hi us), 0)
theorem cos_fun {s : List Int} {L : List VPh} {K J : List (VX Int)} {lo hi us : Int} (hx : K.map (·.xs) = filmL s L) (hn : 0 < L.length) (hJl : J.length = K.length) (hR : ∀ i, i < J.length → (J.getD i zX).xs = costL lo hi us (fun k => (K.getD k zX).xs) K.length i) : (fun k => (J.getD (K.length - 1 - k) zX).xs) = cosF s L lo hi us := by
  funext k
  have hl := kx_len hx
  show (J.getD (K.length - 1 - k) zX).xs = _
  rw [hR _ (by omega), kx_fun hx, hl]; rfl
theorem cos_min {K J : List (VX Int)} {lo hi us : Int} (hJl : J.length = K.length) (hR : ∀ i, i < J.length → (J.getD i zX).xs = costL lo hi us (fun k => (K.getD k zX).xs) K.length i) : ∀ k, k + 1 < K.length → ∀ i, i < (K.getD k zX).xs.length → (J.getD (K.length - 1 - k) zX).xs.getD i 0 = minC lo hi us ((K.getD k zX).xs.getD i 0) (K.getD (k + 1) zX).xs (J.getD (K.length - 1 - (k + 1)) zX).xs (K.getD (k + 1) zX).xs.length := fun k hk i hi2 => by
  rw [hR _ (by omega), hR _ (by omega)]
  have e1 : K.length - 1 - (K.length - 1 - k) = k := by omega
  have := cost_k (lo := lo) (hi := hi) (us := us) (F := fun k => (K.getD k zX).xs) (n := K.length) (t := K.length - 1 - k) (i := i) (by omega) (by omega) (by rw [e1]; exact hi2)
  rw [this]
  unfold curC
  rw [e1, show K.length - 1 - k - 1 = K.length - 1 - (k + 1) by omega]
theorem lk_c {s : List Int} {L : List VPh} {lo hi us : Int} (h : codeF s L lo hi us ≠ 0) : likV s L lo hi us = ([], 0, codeF s L lo hi us) := by unfold likV; rw [if_pos h]
theorem lk_6 {s : List Int} {L : List VPh} {K J : List (VX Int)} {lo hi us : Int} (h : codeF s L lo hi us = 0) (hx : K.map (·.xs) = filmL s L) (hn : 0 < L.length) (hJl : J.length = K.length) (hR : ∀ i, i < J.length → (J.getD i zX).xs = costL lo hi us (fun k => (K.getD k zX).xs) K.length i) (hb : bestC (J.getD (K.length - 1 - 0) zX).xs (K.getD 0 zX).xs.length < 0) : likV s L lo hi us = ([], 0, 6) := by
  unfold likV
  rw [if_neg (fun h9 => h9 h), if_pos]
  rw [← cos_fun hx hn hJl hR, ← kx_fun hx]; exact hb
theorem lk_0 {s : List Int} {L : List VPh} {K J : List (VX Int)} {lo hi us : Int} {k : Nat} (h : codeF s L lo hi us = 0) (hx : K.map (·.xs) = filmL s L) (hn : 0 < L.length) (hJl : J.length = K.length) (hR : ∀ i, i < J.length → (J.getD i zX).xs = costL lo hi us (fun k => (K.getD k zX).xs) K.length i) (hb : ¬ bestC (J.getD (K.length - 1 - 0) zX).xs (K.getD 0 zX).xs.length < 0) (hk : k = L.length) : likV s L lo hi us = (outQ lo hi us (fun k => (K.getD k zX).xs) (fun k => (J.getD (K.length - 1 - k) zX).xs) k, bestC (J.getD (K.length - 1 - 0) zX).xs (K.getD 0 zX).xs.length, 0) := by
  subst hk
  unfold likV
  rw [if_neg (fun h9 => h9 h), ← cos_fun hx hn hJl hR, ← kx_fun hx, if_neg (show ¬ bestV (fun k => (K.getD k zX).xs) (fun k => (J.getD (K.length - 1 - k) zX).xs) < 0 from hb)]; rfl
theorem lk_len {s : List Int} {L : List VPh} {lo hi us : Int} : (likV s L lo hi us).1.length ≤ 20 := by
  by_cases h : codeF s L lo hi us = 0
  · have hl := (cf_of h).2.2.1.1
    unfold likV
    rw [if_neg (fun h9 => h9 h)]
    split
    · simp
    · show (outQ _ _ _ _ _ _).length ≤ 20
      rw [outQ_len]; omega
  · rw [lk_c h]; simp
/-! the code, as the reference comes to it -/
theorem cu_2 {s : List Int} {L : List VPh} {lo hi us : Int} (h : codeF s L lo hi lo = 0 ∨ codeF s L lo hi lo = 3) (hu : ¬ (lo ≤ us ∧ us ≤ hi)) : codeF s L lo hi us = 2 := by
  cases h1 : (validStack s && !badP s L) with
  | false => rw [cf_1 h1] at h; omega
  | true => exact cf_2 h1 (by omega)
theorem cu_s {s : List Int} {L : List VPh} {lo hi us : Int} (h : ¬ (codeF s L lo hi lo = 0 ∨ codeF s L lo hi lo = 3) ∨ (lo ≤ us ∧ us ≤ hi)) : codeF s L lo hi us = codeF s L lo hi lo := by
  cases h1 : (validStack s && !badP s L) with
  | false => rw [cf_1 h1, cf_1 h1]
  | true =>
    by_cases h2 : (1 ≤ L.length ∧ L.length ≤ 20) ∧ 0 ≤ lo ∧ lo ≤ hi ∧ hi ≤ 1000000000000 ∧ lo ≤ lo ∧ lo ≤ hi
    · cases h3 : manyP s L with
      | true =>
        rw [cf_3 h1 h2 h3] at h
        rw [cf_3 h1 h2 h3, cf_3 h1 (by omega) h3]
      | false =>
        rw [cf_0 h1 h2 h3] at h
        rw [cf_0 h1 h2 h3, cf_0 h1 (by omega) h3]
    · rw [cf_2 h1 h2, cf_2 h1 (by omega)]
end Go.W

/- Ways, told by values. -/
set_option linter.unusedVariables false
set_option linter.unusedSimpArgs false
namespace Go.W
open Go Go.Sx
/-! sums over lists -/
def tot (g : Int → Int) : List Int → Int
  | [] => 0
  | x :: t => g x + tot g t
theorem tot_app (g : Int → Int) (s t : List Int) : tot g (s ++ t) = tot g s + tot g t := by
  induction s with
  | nil => simp [tot]
  | cons x s ih => simp only [List.cons_append, tot, ih]; omega
theorem tot_nn {g : Int → Int} {l : List Int} (h : ∀ x, x ∈ l → 0 ≤ g x) : 0 ≤ tot g l := by
  induction l with
  | nil => simp [tot]
  | cons x s ih =>
    have h1 := h x (by simp)
    have h2 := ih fun y hy => h y (by simp [hy])
    simp only [tot]; omega
theorem tot_le {g : Int → Int} {l : List Int} {B : Int} (h : ∀ x, x ∈ l → g x ≤ B) : tot g l ≤ B * l.length := by
  induction l with
  | nil => simp [tot]
  | cons x s ih =>
    have h1 := h x (by simp)
    have h2 := ih fun y hy => h y (by simp [hy])
    have h3 : B * ((x :: s).length : Int) = B + B * s.length := by rw [List.length_cons]; push_cast; rw [Int.mul_add, Int.mul_one]; omega
    simp only [tot]; omega
theorem tot_pos {g : Int → Int} {l : List Int} (h : ∀ x, x ∈ l → 0 ≤ g x) : 0 < tot g l ↔ ∃ x, x ∈ l ∧ 0 < g x := by
  induction l with
  | nil => simp [tot]
  | cons x s ih =>
    have h1 := h x (by simp)
    have h2 : ∀ y, y ∈ s → 0 ≤ g y := fun y hy => h y (by simp [hy])
    have h3 := ih h2
    have h4 := tot_nn h2
    simp only [tot]
    constructor
    · intro h5
      rcases Int.lt_or_le 0 (g x) with h6 | h6
      · exact ⟨x, by simp, h6⟩
      · obtain ⟨y, hy, h7⟩ := h3.1 (by omega)
        exact ⟨y, by simp [hy], h7⟩
    · rintro ⟨y, hy, h6⟩
      rcases List.mem_cons.1 hy with rfl | hy
      · omega
      · have := h3.2 ⟨y, hy, h6⟩; omega
theorem tot_perm {g : Int → Int} {s t : List Int} (h : s.Perm t) : tot g s = tot g t := by
  induction h with
  | nil => rfl
  | cons x _ ih => simp only [tot, ih]
  | swap x y l => simp only [tot]; omega
  | trans _ _ h1 h2 => exact h1.trans h2
/-- What is summed stands in the other list as well, and counts there no less. -/
theorem tot_sub {g f : Int → Int} : ∀ {s t : List Int}, s.Nodup → (∀ x, x ∈ t → 0 ≤ f x) → (∀ x, x ∈ s → 0 < g x → x ∈ t ∧ g x ≤ f x) → tot g s ≤ tot f t
  | [], t, _, hf, _ => tot_nn hf
  | x :: s, t, hd, hf, h => by
    obtain ⟨h1, h2⟩ := List.nodup_cons.1 hd
    simp only [tot]
    rcases Int.lt_or_le 0 (g x) with h3 | h3
    · obtain ⟨h4, h5⟩ := h x (by simp) h3
      have h6 := tot_perm (g := f) (List.perm_cons_erase h4)
      simp only [tot] at h6
      have h7 := tot_sub (s := s) (t := t.erase x) (g := g) (f := f) h2 (fun y hy => hf y (List.mem_of_mem_erase hy)) fun y hy hg => by
        obtain ⟨h8, h9⟩ := h y (by simp [hy]) hg
        have hne : y ≠ x := fun e => h1 (e ▸ hy)
        exact ⟨(List.mem_erase_of_ne hne).2 h8, h9⟩
      omega
    · have h7 := tot_sub (s := s) (t := t) (g := g) (f := f) h2 hf fun y hy hg => h y (by simp [hy]) hg
      omega
theorem tot_congr {g f : Int → Int} {l : List Int} (h : ∀ x, x ∈ l → g x = f x) : tot g l = tot f l := by
  induction l with
  | nil => rfl
  | cons x s ih => simp only [tot]; rw [h x (by simp), ih fun y hy => h y (by simp [hy])]
/-! how many ways there are to a value -/
def stepG (lo hi : Int) (v : Int) (f : Int → Int) (u : Int) : Int := if goesB lo hi u v = true then f u else 0
def wv (lo hi : Int) (F : Nat → List Int) : Nat → Int → Int
  | 0, _ => 1
  | k + 1, v => tot (stepG lo hi v (wv lo hi F k)) (F k)
variable {lo hi us : Int} {F : Nat → List Int} {n : Nat}
theorem step_nn {v : Int} {f : Int → Int} (h : ∀ u, 0 ≤ f u) (u : Int) : 0 ≤ stepG lo hi v f u := by unfold stepG; split; exact h u; omega
theorem wv_nn : ∀ (k : Nat) (v : Int), 0 ≤ wv lo hi F k v
  | 0, _ => by simp [wv]
  | k + 1, v => tot_nn fun u _ => step_nn (wv_nn k) u
theorem take_s {l : List Int} {j : Nat} (h : j < l.length) : l.take (j + 1) = l.take j ++ [l.getD j 0] := by
  rw [List.take_succ_eq_append_getElem h]; simp [List.getD, h]
theorem wSum_tot {pv : List Int} {f : Int → Int} {v : Int} : ∀ j, j ≤ pv.length → wSum lo hi pv (pv.map f) v j = tot (stepG lo hi v f) (pv.take j)
  | 0, _ => by simp [wSum, tot]
  | j + 1, h => by
    rw [wSum, wSum_tot j (by omega), take_s (by omega), tot_app]
    have : (pv.map f).getD j 0 = f (pv.getD j 0) := by simp [List.getD, show j < pv.length by omega]
    rw [this]; simp [tot, stepG]
theorem sumT_tot {pv : List Int} {f : Int → Int} : ∀ j, j ≤ pv.length → sumT (pv.map f) j = tot f (pv.take j)
  | 0, _ => by simp [sumT, tot]
  | j + 1, h => by
    rw [sumT, sumT_tot j (by omega), take_s (by omega), tot_app]
    have : (pv.map f).getD j 0 = f (pv.getD j 0) := by simp [List.getD, show j < pv.length by omega]
    rw [this]; simp [tot]
theorem way_wv : ∀ k, wayL lo hi F k = (F k).map (wv lo hi F k)
  | 0 => rfl
  | k + 1 => by
    rw [wayL, way_wv k]
    refine List.map_congr_left fun v _ => ?_
    rw [wSum_tot _ (Nat.le_refl _), List.take_length]; rfl
theorem wTot_tot (k : Nat) : wTot lo hi F k = tot (wv lo hi F k) (F k) := by
  unfold wTot; rw [way_wv, sumT_tot _ (Nat.le_refl _), List.take_length]
theorem getD_map {β : Type} {l : List Int} {f : Int → β} {i : Nat} {d : β} (h : i < l.length) : (l.map f).getD i d = f (l.getD i 0) := by simp [List.getD, h]
theorem reach_wv : ∀ k, reachL lo hi F k = (F k).map fun v => decide (0 < wv lo hi F k v)
  | 0 => by rw [reachL]; refine List.map_congr_left fun v _ => ?_; rfl
  | k + 1 => by
    rw [reachL, reach_wv k]
    refine List.map_congr_left fun v _ => ?_
    rw [Bool.eq_iff_iff, decide_eq_true_iff, wv, tot_pos fun u _ => step_nn (wv_nn k) u]
    unfold reachA
    rw [List.any_eq_true]
    constructor
    · rintro ⟨i, hi2, h⟩
      have hi2 : i < (F k).length := by simpa using hi2
      rw [getD_map hi2, Bool.and_eq_true, decide_eq_true_iff] at h
      exact ⟨_, getD_mem 0 hi2, by unfold stepG; rw [if_pos h.2]; exact h.1⟩
    · rintro ⟨u, hu, h⟩
      obtain ⟨i, hi2, rfl⟩ := List.getElem_of_mem hu
      have e : (F k).getD i 0 = (F k)[i] := by simp [List.getD, hi2]
      unfold stepG at h
      split at h
      · rename_i hg
        exact ⟨i, by simpa using hi2, by rw [getD_map hi2, e, hg, Bool.and_true, decide_eq_true_iff]; exact h⟩
      · omega
theorem any_map {l : List Int} {p : Int → Bool} : (l.map p).any id = true ↔ ∃ v, v ∈ l ∧ p v = true := by
  rw [List.any_eq_true]; simp
theorem reach_any (k : Nat) : (reachL lo hi F k).any id = true ↔ ∃ v, v ∈ F k ∧ 0 < wv lo hi F k v := by
  rw [reach_wv, any_map]; simp
theorem wTot_pos (k : Nat) : 0 < wTot lo hi F k ↔ (reachL lo hi F k).any id = true := by
  rw [wTot_tot, tot_pos fun u _ => wv_nn k u, reach_any]
theorem reach_back {k : Nat} (h : (reachL lo hi F (k + 1)).any id = true) : (reachL lo hi F k).any id = true := by
  rw [reach_any] at h ⊢
  obtain ⟨v, _, h⟩ := h
  rw [wv, tot_pos fun u _ => step_nn (wv_nn k) u] at h
  obtain ⟨u, hu, h⟩ := h
  refine ⟨u, hu, ?_⟩
  unfold stepG at h; split at h
  · exact h
  · omega
theorem reach_all {k : Nat} (h : (reachL lo hi F k).any id = true) : ∀ i, i ≤ k → (reachL lo hi F i).any id = true := by
  induction k with
  | zero =>
    intro i hi2
    have e : i = 0 := by omega
    rw [e]; exact h
  | succ k ih =>
    intro i hi2
    rcases Nat.lt_or_ge k i with h1 | h1
    · obtain rfl : i = k + 1 := by omega
      exact h
    · exact ih (reach_back h) i h1
theorem wv_le {B : Int} (hB : 0 ≤ B) (hl : ∀ k, k < n → ((F k).length : Int) ≤ B) : ∀ k, k < n → ∀ v, wv lo hi F k v ≤ B ^ k
  | 0, _, v => by simp [wv]
  | k + 1, hk, v => by
    rw [wv, Int.pow_succ]
    have h1 := tot_le (g := stepG lo hi v (wv lo hi F k)) (l := F k) (B := B ^ k) fun u _ => by
      unfold stepG; split
      · exact wv_le hB hl k (by omega) u
      · exact Int.pow_nonneg hB
    have h2 := Int.mul_le_mul_of_nonneg_left (hl k (by omega)) (Int.pow_nonneg hB : 0 ≤ B ^ k)
    omega
theorem wTot_le {B : Int} (hB : 0 ≤ B) (hl : ∀ k, k < n → ((F k).length : Int) ≤ B) {k : Nat} (hk : k < n) : wTot lo hi F k ≤ B ^ (k + 1) := by
  rw [wTot_tot, Int.pow_succ]
  have h1 := tot_le (g := wv lo hi F k) (l := F k) (B := B ^ k) fun u _ => wv_le hB hl k hk u
  have h2 := Int.mul_le_mul_of_nonneg_left (hl k hk) (Int.pow_nonneg hB : 0 ≤ B ^ k)
  omega
/-! least sums to the end, by values -/
def cv (lo hi us : Int) (F : Nat → List Int) (n : Nat) : Nat → Int → Int
  | 0, _ => 0
  | t + 1, v => minC lo hi us v (F (n - 1 - t)) ((F (n - 1 - t)).map (cv lo hi us F n t)) (F (n - 1 - t)).length
theorem cost_cv : ∀ t, costL lo hi us F n t = (F (n - 1 - t)).map (cv lo hi us F n t)
  | 0 => rfl
  | t + 1 => by
    rw [costL, cost_cv t, show n - 1 - (t + 1) = n - 2 - t by omega]; rfl
theorem mc_le {lo hi us v : Int} {nv nc : List Int} {i : Nat} (h0 : 0 ≤ nc.getD i 0) (hg : goesB lo hi v (nv.getD i 0) = true) : ∀ {j : Nat}, i < j → minC lo hi us v nv nc j ≤ nc.getD i 0 + absW (nv.getD i 0 - v - us)
  | 0, h => by omega
  | j + 1, h => by
    rcases Nat.lt_or_ge i j with h1 | h1
    · have ih := mc_le (us := us) h0 hg h1
      have hs := mc_some (us := us) h0 hg h1
      rw [minC]; split
      · exact ih
      · split <;> omega
    · obtain rfl : i = j := by omega
      rw [minC, if_neg (by rintro (h4 | h4); (· omega); (· rw [hg] at h4; cases h4))]
      split <;> omega
/-- A way through lists. -/
structure Way (lo hi : Int) (F : Nat → List Int) (n : Nat) (w : Nat → Int) : Prop where
  at_ : ∀ k, k < n → w k ∈ F k
  go : ∀ k, k + 1 < n → goesB lo hi (w k) (w (k + 1)) = true
def ownS (us : Int) (w : Nat → Int) : Nat → Int
  | 0 => 0
  | k + 1 => ownS us w k + if k = 0 then 0 else absW (w k - w (k - 1) - us)
theorem ownS_nn (us : Int) (w : Nat → Int) : ∀ k, 0 ≤ ownS us w k
  | 0 => by simp [ownS]
  | k + 1 => by rw [ownS]; have := ownS_nn us w k; have := absW_0 (w k - w (k - 1) - us); split <;> omega
theorem Way.pos {w : Nat → Int} (h : Way lo hi F n w) : ∀ k, k < n → 0 < wv lo hi F k (w k)
  | 0, _ => by simp [wv]
  | k + 1, hk => by
    rw [wv, tot_pos fun u _ => step_nn (wv_nn k) u]
    exact ⟨w k, h.at_ k (by omega), by unfold stepG; rw [if_pos (h.go k hk)]; exact h.pos k (by omega)⟩
theorem Way.cost {w : Nat → Int} (h : Way lo hi F n w) : ∀ t, t < n → 0 ≤ cv lo hi us F n t (w (n - 1 - t)) ∧ cv lo hi us F n t (w (n - 1 - t)) + ownS us w (n - t) ≤ ownS us w n
  | 0, _ => by simp [cv]
  | t + 1, ht => by
    obtain ⟨h1, h2⟩ := h.cost t (by omega)
    have e1 : n - 1 - (t + 1) = n - 2 - t := by omega
    have e2 : n - 2 - t + 1 = n - 1 - t := by omega
    have e3 : n - t = (n - (t + 1)) + 1 := by omega
    have hg := h.go (n - 2 - t) (by omega)
    rw [e2] at hg
    obtain ⟨i, hi2, e⟩ := List.getElem_of_mem (h.at_ (n - 1 - t) (by omega))
    have e4 : (F (n - 1 - t)).getD i 0 = w (n - 1 - t) := by rw [← e]; simp [List.getD, hi2]
    have e5 : ((F (n - 1 - t)).map (cv lo hi us F n t)).getD i 0 = cv lo hi us F n t (w (n - 1 - t)) := by rw [getD_map hi2, e4]
    rw [e1, cv]
    have h3 := mc_some (lo := lo) (hi := hi) (us := us) (v := w (n - 2 - t)) (nv := F (n - 1 - t)) (nc := (F (n - 1 - t)).map (cv lo hi us F n t)) (i := i) (by rw [e5]; exact h1) (by rw [e4]; exact hg) hi2
    have h4 := mc_le (lo := lo) (hi := hi) (us := us) (v := w (n - 2 - t)) (nv := F (n - 1 - t)) (nc := (F (n - 1 - t)).map (cv lo hi us F n t)) (i := i) (by rw [e5]; exact h1) (by rw [e4]; exact hg) hi2
    rw [e4, e5] at h4
    rw [e3, ownS, if_neg (by omega), show n - (t + 1) = n - 1 - t by omega, show n - 1 - t - 1 = n - 2 - t by omega] at h2
    rw [show n - (t + 1) = n - 1 - t by omega]
    exact ⟨h3, by omega⟩
/-- Of a way, each value is sure. -/
theorem Way.sure {w : Nat → Int} (h : Way lo hi F n w) {k i : Nat} (hk : k < n) (hi2 : i < (F k).length) (e : (F k).getD i 0 = w k) : okAt lo hi us F n k i = true := by
  unfold okAt
  have h1 := h.pos k hk
  have h2 := (h.cost (us := us) (n - 1 - k) (by omega)).1
  rw [show n - 1 - (n - 1 - k) = k by omega] at h2
  rw [reach_wv, getD_map hi2, cost_cv, show n - 1 - (n - 1 - k) = k by omega, getD_map hi2, e, decide_eq_true h1, decide_eq_true h2]; rfl
/-! the least sum of all -/
theorem bc_some {c : List Int} {i : Nat} (h0 : 0 ≤ c.getD i 0) : ∀ {j : Nat}, i < j → 0 ≤ bestC c j ∧ bestC c j ≤ c.getD i 0
  | 0, h => by omega
  | j + 1, h => by
    rcases Nat.lt_or_ge i j with h1 | h1
    · have ih := bc_some h0 h1
      rw [bestC]; split <;> omega
    · obtain rfl : i = j := by omega
      have hb := bk_bc c i
      have hn := bk_nn c i
      rw [bestC]; split
      · omega
      · rename_i h2
        have : ¬ (bestC c i < 0 ∨ c.getD i 0 < bestC c i) := fun h3 => h2 ⟨h0, h3⟩
        omega
theorem bc_mem {c : List Int} : ∀ {j : Nat}, 0 ≤ bestC c j → ∃ i, i < j ∧ 0 ≤ c.getD i 0
  | 0, h => by simp [bestC] at h
  | j + 1, h => by
    rw [bestC] at h
    split at h
    · rename_i h1; exact ⟨j, by omega, h1.1⟩
    · obtain ⟨i, h1, h2⟩ := bc_mem h; exact ⟨i, by omega, h2⟩
def costC (lo hi us : Int) (F : Nat → List Int) (n k : Nat) : List Int := costL lo hi us F n (n - 1 - k)
theorem costC_at {k i : Nat} (hk : k < n) (hi2 : i < (F k).length) : (costC lo hi us F n k).getD i 0 = cv lo hi us F n (n - 1 - k) ((F k).getD i 0) := by
  unfold costC
  rw [cost_cv, show n - 1 - (n - 1 - k) = k by omega, getD_map hi2]
theorem best_le {w : Nat → Int} (hn : 0 < n) (h : Way lo hi F n w) : 0 ≤ bestV F (costC lo hi us F n) ∧ bestV F (costC lo hi us F n) ≤ ownS us w n := by
  obtain ⟨i, hi2, e⟩ := List.getElem_of_mem (h.at_ 0 hn)
  have e4 : (F 0).getD i 0 = w 0 := by rw [← e]; simp [List.getD, hi2]
  have hc := h.cost (us := us) (n - 1) (by omega)
  rw [show n - 1 - (n - 1) = 0 by omega, show n - (n - 1) = 1 by omega, show ownS us w 1 = 0 by simp [ownS]] at hc
  have h1 := costC_at (lo := lo) (hi := hi) (us := us) (F := F) hn hi2
  rw [e4, Nat.sub_zero] at h1
  have := bc_some (c := costC lo hi us F n 0) (i := i) (by rw [h1]; exact hc.1) hi2
  unfold bestV
  omega
theorem best_iff (hn : 0 < n) : 0 ≤ bestV F (costC lo hi us F n) ↔ (reachL lo hi F (n - 1)).any id = true := by
  rw [← end_any (lo := lo) (hi := hi) (F := F) (n := n) (t := n - 1) (by omega), any_get]
  have key : ∀ i, i < (F 0).length → ((endL lo hi F n (n - 1)).getD i false = true ↔ 0 ≤ (costC lo hi us F n 0).getD i 0) := fun i hi2 => by
    have e1 := end_ok (lo := lo) (hi := hi) (us := us) (F := F) (n := n) (t := n - 1) (i := i) (by omega) (by rw [show n - 1 - (n - 1) = 0 by omega]; exact hi2)
    rw [show n - 1 - (n - 1) = 0 by omega] at e1
    rw [e1]
    unfold okAt costC
    rw [reach_0 hi2, Bool.true_and, decide_eq_true_iff]
  have hl := end_len lo hi F n (n - 1) (by omega)
  rw [show n - 1 - (n - 1) = 0 by omega] at hl
  unfold bestV
  constructor
  · intro h
    obtain ⟨i, h1, h2⟩ := bc_mem h
    exact ⟨i, by rw [hl]; exact h1, (key i h1).2 h2⟩
  · rintro ⟨i, h1, h2⟩
    rw [hl] at h1
    exact (bc_some ((key i h1).1 h2) h1).1
/-- The way of least sum is one, and has the least sum. -/
theorem best_way (hn : 0 < n) (hb : 0 ≤ bestV F (costC lo hi us F n)) :
    Way lo hi F n (fun k => (F k).getD (idxP lo hi us F (costC lo hi us F n) k) 0) ∧ ownS us (fun k => (F k).getD (idxP lo hi us F (costC lo hi us F n) k) 0) n = bestV F (costC lo hi us F n) := by
  have hbk : 0 ≤ bestK (costC lo hi us F n 0) (F 0).length := by
    have := bk_bc (costC lo hi us F n 0) (F 0).length
    unfold bestV at hb; omega
  have hP := path_ok (lo := lo) (hi := hi) (us := us) (F := F) (C := costC lo hi us F n) (n := n) hbk fun k hk i hi2 => by
    unfold costC
    have e1 : n - 1 - k = (n - 2 - k) + 1 := by omega
    have e2 : n - 2 - (n - 2 - k) = k := by omega
    rw [e1, cost_s (by rw [e2]; exact hi2), e2, show n - 1 - (n - 2 - k) = k + 1 by omega, show n - 1 - (k + 1) = n - 2 - k by omega]
  have hgo : ∀ k, k + 1 < n → goesB lo hi ((F k).getD (idxP lo hi us F (costC lo hi us F n) k) 0) ((F (k + 1)).getD (idxP lo hi us F (costC lo hi us F n) (k + 1)) 0) = true ∧ (costC lo hi us F n (k + 1)).getD (idxP lo hi us F (costC lo hi us F n) (k + 1)) 0 + absW ((F (k + 1)).getD (idxP lo hi us F (costC lo hi us F n) (k + 1)) 0 - (F k).getD (idxP lo hi us F (costC lo hi us F n) k) 0 - us) = (costC lo hi us F n k).getD (idxP lo hi us F (costC lo hi us F n) k) 0 := fun k hk => by
    have h1 := (hP (k + 1) hk).ok
    unfold okA at h1
    rw [if_neg (by omega), decide_eq_true_iff, Nat.add_sub_cancel] at h1
    exact ⟨h1.1.2, h1.2⟩
  refine ⟨⟨fun k hk => getD_mem 0 (hP k hk).lt, fun k hk => (hgo k hk).1⟩, ?_⟩
  have key : ∀ k, k < n → ownS us (fun k => (F k).getD (idxP lo hi us F (costC lo hi us F n) k) 0) (k + 1) + (costC lo hi us F n k).getD (idxP lo hi us F (costC lo hi us F n) k) 0 = bestV F (costC lo hi us F n) := by
    intro k
    induction k with
    | zero =>
      intro hk
      have h1 := (hP 0 hk).ok
      unfold okA at h1
      rw [if_pos rfl, decide_eq_true_iff] at h1
      simp only [ownS, if_pos]; omega
    | succ k ih =>
      intro hk
      have h1 := ih (by omega)
      have h2 := (hgo k hk).2
      rw [ownS, if_neg (by omega), Nat.add_sub_cancel]
      omega
  have h1 := key (n - 1) (by omega)
  rw [show n - 1 + 1 = n by omega] at h1
  have h2 : (costC lo hi us F n (n - 1)).getD (idxP lo hi us F (costC lo hi us F n) (n - 1)) 0 = 0 := by
    unfold costC; rw [show n - 1 - (n - 1) = 0 by omega, cost_0]
  omega
/-- Where each sure value stands in other lists as well, there are no fewer ways. -/
theorem more_ways {G : Nat → List Int} (hd : ∀ k, k < n → (F k).Nodup) (hG : ∀ k i, k < n → i < (F k).length → okAt lo hi us F n k i = true → (F k).getD i 0 ∈ G k) : ∀ k, k < n → ∀ i, i < (F k).length → 0 ≤ (costC lo hi us F n k).getD i 0 → wv lo hi F k ((F k).getD i 0) ≤ wv lo hi G k ((F k).getD i 0)
  | 0, _, i, _, _ => by simp [wv]
  | k + 1, hk, i, hi2, hc => by
    rw [wv, wv]
    refine tot_sub (hd k (by omega)) (fun u _ => step_nn (wv_nn k) u) fun u hu hg => ?_
    obtain ⟨j, hj, rfl⟩ := List.getElem_of_mem hu
    have e : (F k).getD j 0 = (F k)[j] := by simp [List.getD, hj]
    unfold stepG at hg ⊢
    split at hg
    · rename_i h1
      rw [if_pos h1, if_pos h1]
      rw [← e] at hg h1 ⊢
      have hcj : 0 ≤ (costC lo hi us F n k).getD j 0 := by
        unfold costC at hc ⊢
        have e1 : n - 1 - k = (n - 2 - k) + 1 := by omega
        have e2 : n - 2 - (n - 2 - k) = k := by omega
        rw [e1, cost_s (by rw [e2]; exact hj), e2, show n - 1 - (n - 2 - k) = k + 1 by omega]
        rw [show n - 1 - (k + 1) = n - 2 - k by omega] at hc
        exact mc_some hc h1 hi2
      have hok : okAt lo hi us F n k j = true := by
        unfold okAt
        rw [reach_wv, getD_map hj, decide_eq_true hg, Bool.true_and]
        exact decide_eq_true hcj
      exact ⟨hG k j (by omega) hj hok, more_ways hd hG k (by omega) j hj hcj⟩
    · omega
theorem more_tot {G : Nat → List Int} (hn : 0 < n) (hd : ∀ k, k < n → (F k).Nodup) (hG : ∀ k i, k < n → i < (F k).length → okAt lo hi us F n k i = true → (F k).getD i 0 ∈ G k) : wTot lo hi F (n - 1) ≤ wTot lo hi G (n - 1) := by
  rw [wTot_tot, wTot_tot]
  refine tot_sub (hd _ (by omega)) (fun u _ => wv_nn _ u) fun u hu hg => ?_
  obtain ⟨j, hj, rfl⟩ := List.getElem_of_mem hu
  have e : (F (n - 1)).getD j 0 = (F (n - 1))[j] := by simp [List.getD, hj]
  rw [← e] at hg ⊢
  have hcj : 0 ≤ (costC lo hi us F n (n - 1)).getD j 0 := by
    unfold costC; rw [show n - 1 - (n - 1) = 0 by omega, cost_0]; omega
  have hok : okAt lo hi us F n (n - 1) j = true := by
    unfold okAt
    rw [reach_wv, getD_map hj, decide_eq_true hg, Bool.true_and]
    exact decide_eq_true hcj
  exact ⟨hG _ j (by omega) hj hok, more_ways hd hG _ (by omega) j hj hcj⟩
end Go.W

/- What is sure: rows that are changed in a pile, photos that are changed in a row. -/
set_option linter.unusedVariables false
set_option linter.unusedSimpArgs false
namespace Go.W
open Go Go.Sx
/-! rows with other contents -/
def rowsW {α : Type} (J : List (VX α)) (G : Nat → List α) : List (VX α) := (List.range J.length).map fun q => ⟨(J.getD q zX).A, (J.getD q zX).c, G q⟩
section
variable {α : Type} {J : List (VX α)} {G G' : Nat → List α} {k : Nat}
theorem rowsW_len (J : List (VX α)) (G : Nat → List α) : (rowsW J G).length = J.length := by simp [rowsW]
theorem rowsW_at (h : k < J.length) : (rowsW J G).getD k zX = ⟨(J.getD k zX).A, (J.getD k zX).c, G k⟩ := by simp [rowsW, List.getD, h]
theorem rowsW_congr (h : ∀ q, q < J.length → G q = G' q) : rowsW J G = rowsW J G' := by
  unfold rowsW
  refine List.map_congr_left fun q hq => ?_
  rw [h q (by simpa using hq)]
theorem rowsW_0 (h : ∀ q, q < J.length → (J.getD q zX).xs = G q) : rowsW J G = J := by
  refine List.ext_getElem (rowsW_len J G) fun q h1 h2 => ?_
  have h3 := h q h2
  simp only [rowsW, List.getElem_map, List.getElem_range]
  rw [← h3]
  simp [List.getD, h2]
theorem readsW {C : Cx} {m : List Ent} {i : Nat} {f : α → List Value} {T : TypeId} {sz : Nat} (hi : m[i]? = some (.pile ((rowsW J G).map (rwX f T sz)))) (hk : k < J.length) {xs : List α} (hx : G k = xs) : Reads C m (J.getD k zX).A (xs.flatMap f) := by
  subst hx
  have h1 := readsX (C := C) hi (k := k) (by rw [rowsW_len]; exact hk)
  rw [rowsW_at hk] at h1
  exact h1
theorem rowsW_split (h : k < J.length) : rowsW J G = (rowsW J G).take k ++ ⟨(J.getD k zX).A, (J.getD k zX).c, G k⟩ :: (rowsW J G).drop (k + 1) := by
  have h1 : k < (rowsW J G).length := by rw [rowsW_len]; exact h
  have h2 := List.drop_eq_getElem_cons h1
  have h3 : (rowsW J G)[k] = ⟨(J.getD k zX).A, (J.getD k zX).c, G k⟩ := by rw [← rowsW_at h]; simp [List.getD, h1]
  rw [← h3, ← h2, List.take_append_drop]
theorem rowsW_other (h : ∀ q, q ≠ k → G q = G' q) : (rowsW J G).take k = (rowsW J G').take k ∧ (rowsW J G).drop (k + 1) = (rowsW J G').drop (k + 1) := by
  constructor
  · refine List.ext_getElem? fun q => ?_
    rw [List.getElem?_take, List.getElem?_take]
    split
    · next hq =>
      unfold rowsW
      rw [List.getElem?_map, List.getElem?_map]
      rcases Nat.lt_or_ge q J.length with h1 | h1
      · rw [List.getElem?_range h1]; simp [h q (by omega)]
      · rw [List.getElem?_eq_none (by simpa using h1)]; rfl
    · rfl
  · refine List.ext_getElem? fun q => ?_
    rw [List.getElem?_drop, List.getElem?_drop]
    unfold rowsW
    rw [List.getElem?_map, List.getElem?_map]
    rcases Nat.lt_or_ge (k + 1 + q) J.length with h1 | h1
    · rw [List.getElem?_range h1]; simp [h (k + 1 + q) (by omega)]
    · rw [List.getElem?_eq_none (by simpa using h1)]; rfl
theorem liftW {C : Cx} {m F : List Ent} {f : α → List Value} {T : TypeId} {sz n : Nat} {xs : List α} (h : k < J.length) (hx : G k = xs) (hl : xs.length = n) (hp : m.Perm (.pile ((rowsW J G).map (rwX f T sz)) :: F)) : ∀ w, Holds C.base C.w0 m w → Holds C.base C.w0 (.row (.slice (J.getD k zX).A n (J.getD k zX).c) T sz n (xs.flatMap f) :: .pile (((rowsW J G).take k).map (rwX f T sz) ++ ((rowsW J G).drop (k + 1)).map (rwX f T sz)) :: F) w := by
  subst hx hl
  exact liftAt (r := rwX f T sz ⟨(J.getD k zX).A, (J.getD k zX).c, G k⟩) (by conv => lhs; rw [rowsW_split h, List.map_append, List.map_cons]) hp
theorem layW {C : Cx} {m F : List Ent} {f : α → List Value} {T : TypeId} {sz n : Nat} {xs : List α} (h : k < J.length) (ho : ∀ q, q ≠ k → G q = G' q) (hx : G' k = xs) (hl : xs.length = n) (hp : m.Perm (.row (.slice (J.getD k zX).A n (J.getD k zX).c) T sz n (xs.flatMap f) :: .pile (((rowsW J G).take k).map (rwX f T sz) ++ ((rowsW J G).drop (k + 1)).map (rwX f T sz)) :: F)) : ∀ w, Holds C.base C.w0 m w → Holds C.base C.w0 (.pile ((rowsW J G').map (rwX f T sz)) :: F) w := by
  subst hx hl
  obtain ⟨h1, h2⟩ := rowsW_other (J := J) ho
  rw [h1, h2] at hp
  have h3 := layHolds (C := C) hp
  rw [rowsW_split (G := G') h, List.map_append, List.map_cons]
  exact h3
end
/-! the rows as they are turned from the last -/
def mixE (lo hi : Int) (F : Nat → List Int) (n t k : Nat) : List Bool := (endL lo hi F n (t + 1)).take k ++ (reachL lo hi F (n - 2 - t)).drop k
def Gst (lo hi : Int) (F : Nat → List Int) (n t k q : Nat) : List Bool := if q < n - 2 - t then reachL lo hi F q else if q = n - 2 - t then mixE lo hi F n t k else endL lo hi F n (n - 1 - q)
def Gt (lo hi : Int) (F : Nat → List Int) (n t q : Nat) : List Bool := if q + 1 + t < n then reachL lo hi F q else endL lo hi F n (n - 1 - q)
section
variable {lo hi : Int} {F : Nat → List Int} {n t k : Nat}
theorem mix_len (ht : t + 2 ≤ n) (hk : k ≤ (F (n - 2 - t)).length) : (mixE lo hi F n t k).length = (F (n - 2 - t)).length := by
  have h1 := end_len lo hi F n (t + 1) (by omega)
  rw [show n - 1 - (t + 1) = n - 2 - t by omega] at h1
  unfold mixE
  rw [List.length_append, List.length_take, List.length_drop, h1, reach_len]; omega
theorem mix_0 : mixE lo hi F n t 0 = reachL lo hi F (n - 2 - t) := by simp [mixE]
theorem mix_all (ht : t + 2 ≤ n) (hk : k = (F (n - 2 - t)).length) : mixE lo hi F n t k = endL lo hi F n (t + 1) := by
  have h1 := end_len lo hi F n (t + 1) (by omega)
  rw [show n - 1 - (t + 1) = n - 2 - t by omega] at h1
  unfold mixE
  rw [hk, List.drop_of_length_le (by rw [reach_len]; exact Nat.le_refl _), List.append_nil, ← h1, List.take_length]
theorem mix_at (ht : t + 2 ≤ n) (hk : k < (F (n - 2 - t)).length) : (mixE lo hi F n t k).getD k false = (reachL lo hi F (n - 2 - t)).getD k false := by
  have h1 := end_len lo hi F n (t + 1) (by omega)
  rw [show n - 1 - (t + 1) = n - 2 - t by omega] at h1
  unfold mixE
  simp only [List.getD]
  rw [List.getElem?_append_right (by simp; omega), List.length_take, h1, List.getElem?_drop, show k + (k - min k (F (n - 2 - t)).length) = k by omega]
theorem mix_set (ht : t + 2 ≤ n) (hk : k < (F (n - 2 - t)).length) : (mixE lo hi F n t k).set k ((endL lo hi F n (t + 1)).getD k false) = mixE lo hi F n t (k + 1) := by
  have h1 := end_len lo hi F n (t + 1) (by omega)
  rw [show n - 1 - (t + 1) = n - 2 - t by omega] at h1
  unfold mixE
  rw [List.set_append_right _ _ (by simp; omega), List.length_take, h1, show k - min k (F (n - 2 - t)).length = 0 by omega, List.drop_eq_getElem_cons (show k < (reachL lo hi F (n - 2 - t)).length by rw [reach_len]; exact hk), List.set_cons_zero, List.take_succ_eq_append_getElem (show k < (endL lo hi F n (t + 1)).length by rw [h1]; exact hk), List.append_assoc]
  simp [List.getD, h1, hk]
theorem mix_put {q : Nat} {v : List Value} (ht : t + 2 ≤ n) (hk : k < (F (n - 2 - t)).length) (hq : q = k * 1) (hv : v = eB ((reachL lo hi F (n - 2 - t)).getD k false && endA lo hi ((F (n - 2 - t)).getD k 0) (F (n - 1 - t)) (endL lo hi F n t) (F (n - 1 - t)).length)) : put ((mixE lo hi F n t k).flatMap eB) q v = (mixE lo hi F n t (k + 1)).flatMap eB := by
  subst hq hv
  rw [flat_put eB_len _ _ _ (by rw [mix_len ht (by omega)]; exact hk), ← end_at hk, mix_set ht hk]
theorem gst_0 (ht : t + 2 ≤ n) (q : Nat) : Gst lo hi F n t 0 q = Gt lo hi F n t q := by
  unfold Gst Gt
  by_cases h1 : q < n - 2 - t
  · rw [if_pos h1, if_pos (by omega)]
  · rw [if_neg h1]
    by_cases h2 : q = n - 2 - t
    · rw [if_pos h2, if_pos (by omega), mix_0, h2]
    · rw [if_neg h2, if_neg (by omega)]
theorem gst_all (ht : t + 2 ≤ n) (hk : k = (F (n - 2 - t)).length) (q : Nat) : Gst lo hi F n t k q = Gt lo hi F n (t + 1) q := by
  unfold Gst Gt
  by_cases h1 : q < n - 2 - t
  · rw [if_pos h1, if_pos (by omega)]
  · rw [if_neg h1]
    by_cases h2 : q = n - 2 - t
    · rw [if_pos h2, if_neg (by omega), mix_all ht hk, h2, show n - 1 - (n - 2 - t) = t + 1 by omega]
    · rw [if_neg h2, if_neg (by omega)]
theorem gst_at : Gst lo hi F n t k (n - 2 - t) = mixE lo hi F n t k := by unfold Gst; rw [if_neg (by omega), if_pos rfl]
theorem gst_next (ht : t + 2 ≤ n) : Gst lo hi F n t k (n - 2 - t + 1) = endL lo hi F n t := by unfold Gst; rw [if_neg (by omega), if_neg (by omega), show n - 1 - (n - 2 - t + 1) = t by omega]
theorem gst_other {k' q : Nat} (h : q ≠ n - 2 - t) : Gst lo hi F n t k q = Gst lo hi F n t k' q := by unfold Gst; rw [if_neg h, if_neg h]
theorem gt_0 (h : 0 < n) {q : Nat} (hq : q < n) : reachL lo hi F q = Gt lo hi F n 0 q := by
  unfold Gt; split
  · rfl
  · rw [show n - 1 - q = 0 by omega, endL, show q = n - 1 by omega]
theorem gt_end (ht : n ≤ t + 1) (q : Nat) : Gt lo hi F n t q = endL lo hi F n (n - 1 - q) := by
  unfold Gt; rw [if_neg (by omega)]
theorem ea_y {v : Int} {nv : List Int} {e : List Bool} {j m : Nat} (h : endA lo hi v nv e j = true) (hj : j ≤ m) : true = endA lo hi v nv e m := (ea_true h hj).symm
theorem ea_f {v : Int} {nv : List Int} {e : List Bool} {j : Nat} (h : endA lo hi v nv e j = false) (hr : e.getD j false = false) : false = endA lo hi v nv e (j + 1) := by rw [ea_s, h, hr]; rfl
theorem ea_g {v : Int} {nv : List Int} {e : List Bool} {j : Nat} (h : endA lo hi v nv e j = false) (hr : e.getD j false = true) : goesB lo hi v (nv.getD j 0) = endA lo hi v nv e (j + 1) := by rw [ea_s, h, hr]; rfl
end
/-! photos of what is sure -/
def okMs (l : List VMk) : Prop := ∀ q, OkMk (l.getD q zMk)
theorem okMs_z : okMs zPh.l := fun q => by
  match q with
  | 0 => exact okZ
  | 1 => exact okZ
  | 2 => exact okZ
  | 3 => exact okZ
  | 4 => exact okZ
  | 5 => exact okZ
  | 6 => exact okZ
  | 7 => exact okZ
  | _ + 8 => exact okZ
theorem putW_ok {s d : List Int} {l : List VMk} (hl : okMs l) (hd : ∀ w, w < s.length → (d.getD w 0).toNat < 128) : ∀ w, w ≤ s.length → okMs (putW s d l w)
  | 0, _ => hl
  | w + 1, h => by
    have ih := putW_ok hl hd w (by omega)
    intro q
    rw [putW, putD]
    simp only [List.getD, List.getElem?_set]
    split
    · split
      · exact putM_ok (ih w) (hd w (by omega))
      · exact okZ
    · exact ih q
theorem putW_put {s d : List Int} {l : List VMk} {w q : Nat} {v : List Value} (hl : l.length = 8) (hw : w < 8) (hq : q = w * 2) (hv : v = encMk (putM ((putW s d l w).getD w zMk) (d.getD w 0).toNat)) : put ((putW s d l w).flatMap encMk) q v = (putW s d l (w + 1)).flatMap encMk := by
  subst hq hv
  rw [flat_put encMk_len _ _ _ (by rw [putW_len, hl]; exact hw)]; rfl
theorem digs_lt {s : List Int} {v : Int} (hs : Stk s) (w : Nat) (hw : w < s.length) : (((dig (digs s v)).l).getD w 0).toNat < 128 := by
  rw [dig_l (digs_len s v)]
  have h1 := digOk hs.len8 (digs_num (v := v) hs.bases) (digs_valid hs) w hw
  have h2 := hs.bases w hw
  omega
theorem sure_ok {s vs : List Int} {ok : Nat → Bool} (hs : Stk s) : ∀ i, okMs (sureM s vs ok i)
  | 0 => okMs_z
  | i + 1 => by
    rw [sureM]; split
    · exact putW_ok (sure_ok hs i) (fun w hw => by have := digs_lt (v := vs.getD i 0) hs w hw; rwa [dig_l (digs_len s _)] at this) _ (Nat.le_refl _)
    · exact sure_ok hs i
theorem sure_y {s vs : List Int} {ok : Nat → Bool} {i w : Nat} (h : ok i = true) (hw : w = s.length) : putW s (dig (digs s (vs.getD i 0))).l (sureM s vs ok i) w = sureM s vs ok (i + 1) := by
  rw [hw, dig_l (digs_len s _), sureM, if_pos h]
theorem sure_n {s vs : List Int} {ok : Nat → Bool} {i : Nat} (h : ok i = false) : sureM s vs ok i = sureM s vs ok (i + 1) := by
  rw [sureM, if_neg (by rw [h]; exact Bool.false_ne_true)]
def sureK (s : List Int) (F : Nat → List Int) (n : Nat) (lo hi : Int) (k i : Nat) : List VMk := sureM s (F k) (okAt lo hi lo F n k) i
def sureP (s : List Int) (F : Nat → List Int) (n : Nat) (lo hi : Int) : List VPh := (List.range n).map fun k => phot (sureK s F n lo hi k (F k).length)
theorem sureP_len (s : List Int) (F : Nat → List Int) (n : Nat) (lo hi : Int) : (sureP s F n lo hi).length = n := by simp [sureP]
theorem sureP_at {s : List Int} {F : Nat → List Int} {n : Nat} {lo hi : Int} {k : Nat} (h : k < n) : (sureP s F n lo hi).getD k zPh = phot (sureK s F n lo hi k (F k).length) := by simp [sureP, List.getD, h]
theorem sureP_eq {s : List Int} {L : List VPh} {K : List (VX Int)} {n : Nat} (hx : K.map (·.xs) = filmL s L) (hn : n = L.length) (lo hi : Int) : sureP s (fun k => (K.getD k zX).xs) n lo hi = surePs s L lo hi := by
  rw [kx_fun hx, hn]; rfl
theorem sureK_len {s : List Int} {F : Nat → List Int} {n : Nat} {lo hi : Int} {k i : Nat} : (sureK s F n lo hi k i).length = 8 := sure_len ..
/-! a photo in a row of them -/
def rowS (P : List VPh) (k : Nat) (m : List VMk) : List VPh := (Sx.part zPh P k).set k (phot m)
theorem rowS_len {P : List VPh} {k : Nat} {m : List VMk} (h : k ≤ P.length) : (rowS P k m).length = P.length := by unfold rowS; rw [List.length_set, part_len _ _ _ h]
theorem rowS_at {P : List VPh} {k : Nat} {m : List VMk} (h : k < P.length) : (rowS P k m).getD k zPh = phot m := by
  unfold rowS; simp [List.getD, part_len zPh P k (by omega), h]
theorem rowS_0 {P : List VPh} {k : Nat} (h : k < P.length) : Sx.part zPh P k = rowS P k zPh.l := by
  unfold rowS
  refine List.ext_getElem? fun j => ?_
  rw [List.getElem?_set]
  split
  · next e =>
    subst e
    rw [part_len _ _ _ (by omega), if_pos h]
    unfold Sx.part
    rw [List.getElem?_append_right (by simp; omega), List.getElem?_replicate, if_pos (by simp; omega)]; rfl
  · rfl
theorem rowS_put {P : List VPh} {k w q : Nat} {m : List VMk} {y : VMk} {v : List Value} (hm : m.length = 8) (h : k < P.length) (hw : w < 8) (hq : q = k * 16 + w * 2) (hv : v = encMk y) : put ((rowS P k m).flatMap encPh) q v = (rowS P k (m.set w y)).flatMap encPh := by
  subst hv
  have h1 : k < (rowS P k m).length := by rw [rowS_len (by omega)]; exact h
  rw [flat_putp encPh_len zPh (rowS P k m) k (phot (m.set w y)) h1 (w * 2) (encMk y) (Nat.ble_eq_true_of_le (by rw [encMk_len]; omega)) ?_ hq]
  · unfold rowS; rw [List.set_set]
  · rw [rowS_at h, encPh_ph hm, encPh_ph (by rw [List.length_set, hm]), flat_put encMk_len _ _ _ (by omega)]
theorem rowS_fin {P : List VPh} {k : Nat} {m : List VMk} (h : k < P.length) (hm : phot m = P.getD k zPh) : rowS P k m = Sx.part zPh P (k + 1) := by
  unfold rowS; rw [hm, part_set _ _ _ _ h]
theorem segS {C : Cx} {e : List Ent} {A : Option Addr} {P : List VPh} {k w : Nat} {i j : Int} {m : List VMk} (H : Reads C e A ((rowS P k m).flatMap encPh)) (hm : m.length = 8) (h : k < P.length) (hw : w < 8) (hi : i = (k : Int)) (hj : j = (w : Int)) : SegO C e (offA A (i.toNat * 16 + j.toNat * 2)) (encMk (m.getD w zMk)) := by
  subst hi hj
  refine partN H encPh_len zPh (w * 2) 2 (Nat.ble_eq_true_of_le (by omega)) rfl (by rw [rowS_len (by omega)]; exact h) ?_
  rw [rowS_at h, encPh_ph hm, flat_seg encMk_len zMk m w (by omega)]
theorem photo_snoc {P : List VPh} {k : Nat} {m : List VMk} (h : k < P.length) (hl : m.length = 8) (hm : phot m = P.getD k zPh) : (P.take k).flatMap encPh ++ m.flatMap encMk = (P.take (k + 1)).flatMap encPh := by
  rw [List.take_succ_eq_append_getElem h, List.flatMap_append, ← encPh_ph hl, hm]
  simp [List.getD, h]
theorem photo_snoc2 {P : List VPh} {k : Nat} {q : VPh} (h : k < P.length) (hm : P.getD k zPh = q) : (P.take k).flatMap encPh ++ encPh q = (P.take (k + 1)).flatMap encPh := by
  rw [List.take_succ_eq_append_getElem h, List.flatMap_append, ← hm]
  simp [List.getD, h]
theorem perm_5 {m : List Ent} {a b c d e : Ent} (i j k l q : Nat) (h1 : m[i]? = some a) (h2 : (m.eraseIdx i)[j]? = some b) (h3 : ((m.eraseIdx i).eraseIdx j)[k]? = some c) (h4 : (((m.eraseIdx i).eraseIdx j).eraseIdx k)[l]? = some d) (h5 : ((((m.eraseIdx i).eraseIdx j).eraseIdx k).eraseIdx l)[q]? = some e) : m.Perm ([a, b, c, d, e] ++ ((((m.eraseIdx i).eraseIdx j).eraseIdx k).eraseIdx l).eraseIdx q) :=
  (perm_at h1).trans (List.Perm.cons a ((perm_at h2).trans (List.Perm.cons b ((perm_at h3).trans (List.Perm.cons c ((perm_at h4).trans (List.Perm.cons d (perm_at h5))))))))
/-! the answer -/
theorem sure_c {s : List Int} {L : List VPh} {lo hi : Int} (h : codeF s L lo hi lo ≠ 0) : sureV s L lo hi = ([], codeF s L lo hi lo) := by unfold sureV; rw [if_pos h]
theorem sure_6 {s : List Int} {L : List VPh} {K : List (VX Int)} {lo hi : Int} {n : Nat} (h : codeF s L lo hi lo = 0) (hx : K.map (·.xs) = filmL s L) (hn : n = L.length) (hb : (reachL lo hi (fun k => (K.getD k zX).xs) (n - 1)).any id = false) : sureV s L lo hi = ([], 6) := by
  rw [kx_fun hx, hn] at hb
  unfold sureV; rw [if_neg (fun h9 => h9 h), if_pos hb]
theorem sure_0 {s : List Int} {L : List VPh} {K : List (VX Int)} {lo hi : Int} {n : Nat} (h : codeF s L lo hi lo = 0) (hx : K.map (·.xs) = filmL s L) (hn : n = L.length) (hb : (reachL lo hi (fun k => (K.getD k zX).xs) (n - 1)).any id = true) : sureV s L lo hi = (sureP s (fun k => (K.getD k zX).xs) n lo hi, 0) := by
  rw [sureP_eq hx hn]
  rw [kx_fun hx, hn] at hb
  unfold sureV; rw [if_neg (fun h9 => h9 h), if_neg (by rw [hb]; exact fun h => nomatch h)]
theorem sure_le {s : List Int} {L : List VPh} {lo hi : Int} : (sureV s L lo hi).1.length ≤ 20 := by
  unfold sureV
  split
  · simp
  · next h =>
    split
    · simp
    · have hl := (cf_of (Decidable.not_not.1 h)).2.2.1.1
      show (surePs s L lo hi).length ≤ 20
      simp only [surePs, List.length_map, List.length_range]; omega
theorem end_anyF {lo hi : Int} {F : Nat → List Int} {n : Nat} (hn : 0 < n) {b : Bool} (h : (endL lo hi F n (n - 1 - 0)).any id = b) : (reachL lo hi F (n - 1)).any id = b := by
  have := end_any (lo := lo) (hi := hi) (F := F) (n := n) (t := n - 1 - 0) (by omega)
  cases b with
  | true => exact this.1 h
  | false => rw [← Bool.not_eq_true] at h ⊢; exact fun h2 => h (this.2 h2)
theorem end_okF {lo hi us : Int} {F : Nat → List Int} {n k i : Nat} (hk : k < n) (hi2 : i < (F k).length) {b : Bool} (h : (endL lo hi F n (n - 1 - k)).getD i false = b) : okAt lo hi us F n k i = b := by
  have e : n - 1 - (n - 1 - k) = k := by omega
  have := end_ok (lo := lo) (hi := hi) (us := us) (F := F) (n := n) (t := n - 1 - k) (i := i) (by omega) (by rw [e]; exact hi2)
  rw [e] at this; rw [← this, h]
theorem ok_yF {lo hi us : Int} {F : Nat → List Int} {n k i : Nat} {c : List Int} (hc : c = costL lo hi us F n (n - 1 - k)) (h1 : (reachL lo hi F k).getD i false = true) (h2 : ¬ c.getD i 0 < 0) : okAt lo hi us F n k i = true := by
  subst hc; unfold okAt; rw [h1, Bool.true_and]; exact decide_eq_true (by omega)
theorem ok_n1F {lo hi us : Int} {F : Nat → List Int} {n k i : Nat} (h1 : (reachL lo hi F k).getD i false = false) : okAt lo hi us F n k i = false := by
  unfold okAt; rw [h1]; rfl
theorem ok_yG {lo hi us : Int} {F : Nat → List Int} {n k i : Nat} {r : List Bool} {c : List Int} (hr : r = reachL lo hi F k) (hc : c = costL lo hi us F n (n - 1 - k)) (h1 : r.getD i false = true) (h2 : ¬ c.getD i 0 < 0) : okAt lo hi us F n k i = true := by subst hr; exact ok_yF hc h1 h2
theorem ok_n1G {lo hi us : Int} {F : Nat → List Int} {n k i : Nat} {r : List Bool} (hr : r = reachL lo hi F k) (h1 : r.getD i false = false) : okAt lo hi us F n k i = false := by subst hr; exact ok_n1F h1
theorem ok_n2F {lo hi us : Int} {F : Nat → List Int} {n k i : Nat} {c : List Int} (hc : c = costL lo hi us F n (n - 1 - k)) (h2 : c.getD i 0 < 0) : okAt lo hi us F n k i = false := by
  subst hc; unfold okAt; rw [decide_eq_false (by omega), Bool.and_false]
end Go.W

/- Photos of two wheels of ten digits; what is sure of them; the law of ways. -/
set_option linter.unusedVariables false
set_option linter.unusedSimpArgs false
namespace Go.W
open Go Go.Sx
theorem digI_mem {m : VMk} {x : Int} : x ∈ digI m ↔ 0 ≤ x ∧ x < 128 ∧ hasM m x.toNat = true := by
  refine ⟨digI_has, fun ⟨h0, h1, h2⟩ => ?_⟩
  unfold digI digM
  exact List.mem_map.2 ⟨x.toNat, List.mem_filter.2 ⟨by simp; omega, h2⟩, by omega⟩
theorem valid2 : validStack [10, 10] = true := by decide
theorem stk2 : Stk [10, 10] := Go.W.stk valid2
theorem vals2 (p : VPh) : valsP [10, 10] p = stepV 10 (digI (p.l.getD 0 zMk)) (stepV 10 (digI (p.l.getD 1 zMk)) [0]) := rfl
theorem lt2 {p : VPh} (h : PhOk [10, 10] p.l) {i : Nat} (hi : i < 2) {x : Int} (hx : x ∈ digI (p.l.getD i zMk)) : 0 ≤ x ∧ x < 10 := by
  have h1 := digI_has hx
  have h2 := h.lt i hi x.toNat (by omega) h1.2.2
  have h3 : ([10, 10] : List Int).getD i 0 = 10 := by
    match i, hi with
    | 0, _ | 1, _ => rfl
  omega
theorem vals_mem {p : VPh} (h : PhOk [10, 10] p.l) (v : Int) : v ∈ valsP [10, 10] p ↔ (0 ≤ v ∧ v < 100) ∧ hasM (p.l.getD 0 zMk) (v % 10).toNat = true ∧ hasM (p.l.getD 1 zMk) (v / 10).toNat = true := by
  rw [vals2]
  unfold stepV oneL
  simp only [List.mem_flatMap, List.mem_map, List.mem_singleton]
  constructor
  · rintro ⟨u, ⟨z, rfl, b, hb, rfl⟩, a, ha, rfl⟩
    have hb2 := lt2 h (i := 1) (by omega) hb
    have ha2 := lt2 h (i := 0) (by omega) ha
    have hb3 := (digI_has hb).2.2
    have ha3 := (digI_has ha).2.2
    refine ⟨by omega, ?_, ?_⟩
    · rwa [show ((0 * 10 + b) * 10 + a) % 10 = a by omega]
    · rwa [show ((0 * 10 + b) * 10 + a) / 10 = b by omega]
  · rintro ⟨hv, h1, h2⟩
    exact ⟨0 * 10 + v / 10, ⟨0, rfl, v / 10, digI_mem.2 ⟨by omega, by omega, h2⟩, rfl⟩, v % 10, digI_mem.2 ⟨by omega, by omega, h1⟩, by omega⟩
theorem digI_up (m : VMk) : (digI m).Pairwise (· < ·) := by
  unfold digI digM
  refine List.Pairwise.map _ (fun a b h => ?_) ((List.pairwise_lt_range (n := 128)).filter _)
  exact_mod_cast h
theorem step_up {ds out : List Int} (hd : ds.Pairwise (· < ·)) (ho : out.Pairwise (· < ·)) (h : ∀ x, x ∈ ds → 0 ≤ x ∧ x < 10) : (stepV 10 ds out).Pairwise (· < ·) := by
  unfold stepV
  rw [List.pairwise_flatMap]
  refine ⟨fun u _ => ?_, ho.imp fun {a b} hab => fun x hx y hy => ?_⟩
  · unfold oneL
    exact List.Pairwise.map _ (fun a b h => by show u * 10 + a < u * 10 + b; omega) hd
  · unfold oneL at hx hy
    obtain ⟨c, hc, rfl⟩ := List.mem_map.1 hx
    obtain ⟨e, he, rfl⟩ := List.mem_map.1 hy
    have := h c hc; have := h e he
    omega
theorem vals_nodup {p : VPh} (h : PhOk [10, 10] p.l) : (valsP [10, 10] p).Nodup := by
  rw [vals2]
  exact (step_up (digI_up _) (step_up (digI_up _) (List.pairwise_singleton _ _) fun x hx => lt2 h (by omega) hx) fun x hx => lt2 h (by omega) hx).imp fun h => Int.ne_of_lt h
theorem digs2 (v : Int) : (digs [10, 10] v).getD 0 0 = v % 10 ∧ (digs [10, 10] v).getD 1 0 = v / 10 % 10 := by
  rw [digs_lo (by decide) (by decide), digs_lo (by decide) (by decide)]
  constructor
  · show v / 1 % 10 = v % 10; rw [Int.ediv_one]
  · rfl
theorem shows2 {p : VPh} {v : Int} (hv : 0 ≤ v ∧ v < 100) : showsM [10, 10] p.l (digs [10, 10] v) = true ↔ hasM (p.l.getD 0 zMk) (v % 10).toNat = true ∧ hasM (p.l.getD 1 zMk) (v / 10).toNat = true := by
  obtain ⟨h1, h2⟩ := digs2 v
  rw [show v / 10 % 10 = v / 10 by omega] at h2
  unfold showsM
  rw [List.all_eq_true]
  constructor
  · intro h
    have a := h 0 (by simp)
    have b := h 1 (by simp)
    rw [h1] at a; rw [h2] at b
    exact ⟨a, b⟩
  · rintro ⟨a, b⟩ x hx
    have hx : x < 2 := by simpa using hx
    match x, hx with
    | 0, _ => rw [h1]; exact a
    | 1, _ => rw [h2]; exact b
theorem vals_shows {p : VPh} (h : PhOk [10, 10] p.l) (v : Int) : v ∈ valsP [10, 10] p ↔ (0 ≤ v ∧ v < 100) ∧ showsM [10, 10] p.l (digs [10, 10] v) = true := by
  rw [vals_mem h]
  constructor
  · rintro ⟨h1, h2⟩; exact ⟨h1, (shows2 h1).2 h2⟩
  · rintro ⟨h1, h2⟩; exact ⟨h1, (shows2 h1).1 h2⟩
theorem vals_len {p : VPh} (h : PhOk [10, 10] p.l) : ((valsP [10, 10] p).length : Int) ≤ 100 := by
  rw [valsP_len]
  have := (cho_bd h stk2 2 (Nat.le_refl _)).2
  have e : prod (([10, 10] : List Int).take 2) = 100 := by decide
  have e2 : ([10, 10] : List Int).length = 2 := rfl
  rw [e2]; omega
/-! marks that are put -/
theorem has_sub {m n : VMk} (hm : OkMk m) (hn : OkMk n) (h : ∀ d, d < 128 → hasM m d = true → hasM n d = true) : subM m n = true := by
  unfold subM
  rw [decide_eq_true_iff]
  have key : ∀ {x y : Int}, (0 ≤ x ∧ x < 18446744073709551616) → (0 ≤ y ∧ y < 18446744073709551616) → (∀ i, i < 64 → bitB x i = true → bitB y i = true) → bits .andNot .u64 x y = 0 := by
    intro x y hx hy hb
    obtain ⟨a, rfl⟩ := Int.eq_ofNat_of_zero_le hx.1
    obtain ⟨b, rfl⟩ := Int.eq_ofNat_of_zero_le hy.1
    show IntKind.u64.wrap ((BitVec.ofInt IntKind.u64.bits (a : Int) &&& ~~~BitVec.ofInt IntKind.u64.bits (b : Int)).toNat : Int) = 0
    have hz : (BitVec.ofInt IntKind.u64.bits (a : Int) &&& ~~~BitVec.ofInt IntKind.u64.bits (b : Int)) = 0#_ := by
      simp only [BitVec.ofInt_natCast]
      refine BitVec.eq_of_getLsbD_eq fun i hi => ?_
      simp only [BitVec.getLsbD_and, BitVec.getLsbD_not, BitVec.getLsbD_ofNat, hi, decide_true, Bool.true_and, BitVec.getLsbD_zero]
      have h1 := hb i hi
      unfold bitB at h1
      rw [Int.toNat_natCast, Int.toNat_natCast] at h1
      cases h2 : a.testBit i
      · simp
      · rw [h1 h2]; simp
    rw [hz]; rfl
  exact ⟨key hm.1 hn.1 fun i hi hb => by have := h i (by omega); rw [hasM_lo hi, hasM_lo hi] at this; exact this hb, key hm.2 hn.2 fun i hi hb => by have := h (64 + i) (by omega); rw [hasM_hi hi, hasM_hi hi] at this; exact this hb⟩
theorem putW_get {s d : List Int} {l : List VMk} {q : Nat} : ∀ w, w ≤ l.length → (putW s d l w).getD q zMk = if q < w then putM (l.getD q zMk) (d.getD q 0).toNat else l.getD q zMk
  | 0, _ => by simp [putW]
  | w + 1, h => by
    have ih := fun q => putW_get (s := s) (d := d) (l := l) (q := q) w (by omega)
    have hl := putW_len s d l w
    rw [putW, putD]
    by_cases e : w = q
    · subst e
      rw [if_pos (by omega)]
      have e2 : ((putW s d l w).set w (putM ((putW s d l w).getD w zMk) (d.getD w 0).toNat)).getD w zMk = putM ((putW s d l w).getD w zMk) (d.getD w 0).toNat := by simp [List.getD, show w < (putW s d l w).length by omega]
      rw [e2, ih w, if_neg (by omega)]
    · have e2 : ((putW s d l w).set w (putM ((putW s d l w).getD w zMk) (d.getD w 0).toNat)).getD q zMk = (putW s d l w).getD q zMk := by simp [List.getD, List.getElem?_set, e]
      rw [e2, ih q]
      by_cases h2 : q < w
      · rw [if_pos h2, if_pos (by omega)]
      · rw [if_neg h2, if_neg (by omega)]
theorem digs_sm {s : List Int} {v : Int} (hs : Stk s) {w : Nat} (hw : w < s.length) : ((digs s v).getD w 0).toNat < 128 ∧ (((digs s v).getD w 0).toNat : Int) < s.getD w 0 := by
  have h1 := digOk hs.len8 (digs_num (v := v) hs.bases) (digs_valid hs) w hw
  have h2 := hs.bases w hw
  omega
section
variable {s vs : List Int} {ok : Nat → Bool}
theorem sure_has (hs : Stk s) : ∀ {n i : Nat}, i < n → ok i = true → ∀ w, w < s.length → hasM ((sureM s vs ok n).getD w zMk) ((digs s (vs.getD i 0)).getD w 0).toNat = true
  | 0, i, h, _, _, _ => by omega
  | n + 1, i, h, hok, w, hw => by
    have hd := digs_sm (v := vs.getD i 0) hs hw
    have h8 := hs.len8
    rcases Nat.lt_or_ge i n with h1 | h1
    · have ih := sure_has hs h1 hok w hw
      rw [sureM]; split
      · rw [putW_get _ (by rw [sure_len]; exact h8), if_pos hw, has_put (digs_sm hs hw).1 hd.1, ih, Bool.or_true]
      · exact ih
    · obtain rfl : i = n := by omega
      rw [sureM, if_pos hok, putW_get _ (by rw [sure_len]; exact h8), if_pos hw, has_put hd.1 hd.1]; simp
theorem sure_only (hs : Stk s) : ∀ {n : Nat} {w d : Nat}, d < 128 → hasM ((sureM s vs ok n).getD w zMk) d = true → w < s.length ∧ ∃ i, i < n ∧ ok i = true ∧ d = ((digs s (vs.getD i 0)).getD w 0).toNat
  | 0, w, d, hd, h => by
    have e : (sureM s vs ok 0).getD w zMk = zMk := by
      show zPh.l.getD w zMk = zMk
      match w with
      | 0 | 1 | 2 | 3 | 4 | 5 | 6 | 7 => rfl
      | _ + 8 => rfl
    rw [e, has_z] at h; cases h
  | n + 1, w, d, hd, h => by
    have h8 := hs.len8
    rw [sureM] at h
    split at h
    · rename_i hok
      rw [putW_get _ (by rw [sure_len]; exact h8)] at h
      split at h
      · rename_i hw
        rw [has_put (digs_sm hs hw).1 hd, Bool.or_eq_true, decide_eq_true_iff] at h
        rcases h with h | h
        · exact ⟨hw, n, by omega, hok, h.symm⟩
        · obtain ⟨_, i, h1, h2⟩ := sure_only hs hd h
          exact ⟨hw, i, by omega, h2⟩
      · obtain ⟨h0, i, h1, h2⟩ := sure_only hs hd h
        exact ⟨h0, i, by omega, h2⟩
    · obtain ⟨h0, i, h1, h2⟩ := sure_only hs hd h
      exact ⟨h0, i, by omega, h2⟩
theorem sure_photo (hs : Stk s) {n : Nat} (h : ∃ i, i < n ∧ ok i = true) : photoOk s (sureM s vs ok n) = true := by
  unfold photoOk
  rw [List.all_eq_true]
  intro w hw
  have hw : w < 8 := by simpa using hw
  unfold phAt
  have hokm := sure_ok (vs := vs) (ok := ok) hs n w
  split
  · rename_i hws
    obtain ⟨i, hi, hok⟩ := h
    have h1 := sure_has (vs := vs) hs hi hok w hws
    have hb := hs.bases w hws
    rw [Bool.and_eq_true, Bool.not_eq_true', decide_eq_false_iff_not]
    refine ⟨fun e => ?_, has_sub hokm (fullM_ok (by omega)) fun d hd hh => ?_⟩
    · have e2 : (sureM s vs ok n).getD w zMk = zMk := mk_inj e
      rw [e2, has_z] at h1; cases h1
    · obtain ⟨_, j, _, _, rfl⟩ := sure_only hs hd hh
      have := digs_sm (v := vs.getD j 0) hs hws
      rw [has_full (by omega) hd, decide_eq_true_iff]; omega
  · rename_i hws
    rw [decide_eq_true_iff]
    have e : (sureM s vs ok n).getD w zMk = zMk := has_ext hokm okZ fun d hd => by
      rw [has_z, ← Bool.not_eq_true]
      intro hh
      exact hws (sure_only hs hd hh).1
    rw [e]; rfl
theorem sure_shows (hs : Stk s) {n i : Nat} (hi : i < n) (hok : ok i = true) : showsM s (sureM s vs ok n) (digs s (vs.getD i 0)) = true := by
  unfold showsM
  rw [List.all_eq_true]
  intro w hw
  exact sure_has hs hi hok w (by simpa using hw)
end
theorem way_of {lo hi : Int} {F : Nat → List Int} {v : List Int} {n : Nat} (h : ∀ i, i < n → wayOk lo hi F v i = true) : Way lo hi F n fun k => v.getD k 0 := by
  refine ⟨fun k hk => ?_, fun k hk => ?_⟩
  · have := h k hk
    unfold wayOk at this
    rw [Bool.and_eq_true, List.contains_iff_mem] at this
    exact this.1
  · have := h (k + 1) hk
    unfold wayOk at this
    rw [Bool.and_eq_true, Bool.or_eq_true, decide_eq_true_iff, Nat.add_sub_cancel] at this
    rcases this.2 with h1 | h1
    · omega
    · exact h1
theorem of_way {lo hi : Int} {F : Nat → List Int} {v : List Int} {n : Nat} {w : Nat → Int} (h : Way lo hi F n w) (e : ∀ i, i < n → v.getD i 0 = w i) : ∀ i, i < n → wayOk lo hi F v i = true := fun i hi2 => by
  unfold wayOk
  rw [e i hi2, Bool.and_eq_true, List.contains_iff_mem]
  refine ⟨h.at_ i hi2, ?_⟩
  rcases Nat.eq_zero_or_pos i with h1 | h1
  · subst h1; rfl
  · obtain ⟨k, rfl⟩ : ∃ k, i = k + 1 := ⟨i - 1, by omega⟩
    rw [Nat.add_sub_cancel, e k (by omega), h.go k hi2, Bool.or_true]
/-! the law -/
def PhsOk (L : List VPh) : Prop := ∀ k, k < L.length → OkPh (L.getD k zPh) ∧ photoOk [10, 10] (L.getD k zPh).l = true
theorem PhsOk.ph {L : List VPh} (h : PhsOk L) {k : Nat} (hk : k < L.length) : PhOk [10, 10] (L.getD k zPh).l := phOk stk2 (h k hk).1 (h k hk).2
theorem code2 {L : List VPh} {most us : Int} (h : PhsOk L) (hl : 1 ≤ L.length ∧ L.length ≤ 20) (hm : 0 ≤ most ∧ most ≤ 1000) (hu : 0 ≤ us ∧ us ≤ most) : codeF [10, 10] L 0 most us = 0 := by
  have hb : badP [10, 10] L = false := any_no (d := zPh) (k := L.length) (Nat.lt_irrefl _) fun i hi => by rw [(h i hi).2]; rfl
  refine cf_all (k := L.length) valid2 hb ⟨hl, by omega, by omega, by omega, by omega, by omega⟩ (Nat.lt_irrefl _) fun i hi => ?_
  rw [decide_eq_false_iff_not]
  have := vals_len (h.ph hi)
  rw [valsP_len] at this
  have e : choV (L.getD i zPh).l ([10, 10] : List Int).length = choV (L.getD i zPh).l ([10, 10] : List Int).length := rfl
  omega
theorem film_len2 {L : List VPh} (h : PhsOk L) {k : Nat} (hk : k < L.length) : ((filmF [10, 10] L k).length : Int) ≤ 100 := by
  rw [film_at hk]; exact vals_len (h.ph hk)
theorem ways2 {L : List VPh} {most : Int} (h : PhsOk L) (hl : 1 ≤ L.length ∧ L.length ≤ 4) (hm : 0 ≤ most ∧ most ≤ 1000) : waysV [10, 10] L 0 most = (wTot 0 most (filmF [10, 10] L) (L.length - 1), 0) := by
  refine wv_0 (code2 h (by omega) hm (by omega)) fun i hi => ?_
  unfold wOver
  rw [decide_eq_false_iff_not]
  have h1 := wTot_le (lo := 0) (hi := most) (F := filmF [10, 10] L) (n := L.length) (B := 100) (by omega) (fun k hk => film_len2 h hk) hi
  have h2 : (100 : Int) ^ (i + 1) ≤ 100000000 := by
    have h3 : i = 0 ∨ i = 1 ∨ i = 2 ∨ i = 3 := by omega
    rcases h3 with rfl | rfl | rfl | rfl <;> decide
  omega
/-- What is known of the ways through some photos. -/
structure WLaw (L : List VPh) (most us : Int) (tr : List Int) (due : Int) : Prop where
  nn : 0 ≤ due
  ways : waysV [10, 10] L 0 most = (due, 0)
  stuck : due = 0 ↔ (stuckV [10, 10] L 0 most).2 = 0
  lik : due = 0 ↔ (likV [10, 10] L 0 most us).2.2 = 6
  sure : due = 0 ↔ (sureV [10, 10] L 0 most).2 = 6
  ck : (checkV [10, 10] L tr 0 most).2 = 0
  good : (checkV [10, 10] L tr 0 most).1 = true → due ≠ 0
  best : due ≠ 0 → checkV [10, 10] L (likV [10, 10] L 0 most us).1 0 most = (true, 0)
  len : due ≠ 0 → (sureV [10, 10] L 0 most).1.length = L.length ∧ (likV [10, 10] L 0 most us).1.length = L.length
  phs : due ≠ 0 → PhsOk (sureV [10, 10] L 0 most).1
  bin : due ≠ 0 → ∀ i, i < L.length → (0 ≤ (likV [10, 10] L 0 most us).1.getD i 0 ∧ (likV [10, 10] L 0 most us).1.getD i 0 < 100) ∧ shV [10, 10] ((sureV [10, 10] L 0 most).1.getD i zPh) (dig (digs [10, 10] ((likV [10, 10] L 0 most us).1.getD i 0))) = (true, 0)
  tin : due ≠ 0 → (checkV [10, 10] L tr 0 most).1 = true → ∀ i, i < L.length → shV [10, 10] ((sureV [10, 10] L 0 most).1.getD i zPh) (dig (digs [10, 10] (tr.getD i 0))) = (true, 0)
  cost : due ≠ 0 → ownS us (fun k => (likV [10, 10] L 0 most us).1.getD k 0) L.length = (likV [10, 10] L 0 most us).2.1
  own : due ≠ 0 → (checkV [10, 10] L tr 0 most).1 = true → (likV [10, 10] L 0 most us).2.1 ≤ ownS us (fun k => tr.getD k 0) L.length
  again : due ≠ 0 → (waysV [10, 10] (sureV [10, 10] L 0 most).1 0 most).2 = 0 ∧ due ≤ (waysV [10, 10] (sureV [10, 10] L 0 most).1 0 most).1
theorem sh_of {p : VPh} {v : Int} (hp : photoOk [10, 10] p.l = true) (h : showsM [10, 10] p.l (digs [10, 10] v) = true) : shV [10, 10] p (dig (digs [10, 10] v)) = (true, 0) := by
  have hl : (dig (digs [10, 10] v)).l = digs [10, 10] v := dig_l (digs_len _ _)
  unfold shV
  rw [if_pos (by unfold validPh; rw [hp, hl, digs_valid stk2, valid2]; rfl), hl, h]
theorem wlaw {L : List VPh} {most us : Int} {tr : List Int} (h : PhsOk L) (hl : 1 ≤ L.length ∧ L.length ≤ 4) (hm : 0 ≤ most ∧ most ≤ 1000) (hu : 0 ≤ us ∧ us ≤ most) (ht : tr.length = L.length) : WLaw L most us tr (waysV [10, 10] L 0 most).1 := by
  have hc0 := code2 h (us := 0) (by omega) hm (by omega)
  have hcu := code2 h (us := us) (by omega) hm hu
  have hw := ways2 h hl hm
  have hn : 0 < L.length := by omega
  have hd0 : (waysV [10, 10] L 0 most).1 = wTot 0 most (filmF [10, 10] L) (L.length - 1) := by rw [hw]
  have hpos := wTot_pos (lo := 0) (hi := most) (F := filmF [10, 10] L) (L.length - 1)
  have hnn : 0 ≤ (waysV [10, 10] L 0 most).1 := by rw [hd0, wTot_tot]; exact tot_nn fun u _ => wv_nn _ u
  generalize hdue : (waysV [10, 10] L 0 most).1 = due at hd0 hnn ⊢
  rw [← hd0] at hpos
  have hz : due = 0 ↔ (reachL 0 most (filmF [10, 10] L) (L.length - 1)).any id = false := by
    rw [← Bool.not_eq_true, ← hpos]; omega
  have hbi := best_iff (lo := 0) (hi := most) (us := us) (F := filmF [10, 10] L) hn
  have hcos : cosF [10, 10] L 0 most us = costC 0 most us (filmF [10, 10] L) L.length := rfl
  have hcheck : ∀ v : List Int, (checkV [10, 10] L v 0 most).2 = 0 := fun v => by unfold checkV; rw [if_neg (fun h9 => h9 hc0)]
  have hck : ∀ v : List Int, (checkV [10, 10] L v 0 most).1 = true → v.length = L.length ∧ Way 0 most (filmF [10, 10] L) L.length fun k => v.getD k 0 := fun v hv => by
    unfold checkV at hv
    rw [if_neg (fun h9 => h9 hc0)] at hv
    have hv : (decide (v.length = L.length) && (List.range L.length).all (wayOk 0 most (filmF [10, 10] L) v)) = true := hv
    rw [Bool.and_eq_true, decide_eq_true_iff, List.all_eq_true] at hv
    exact ⟨hv.1, way_of fun i hi => hv.2 i (by simpa using hi)⟩
  have hwp : ∀ w, Way 0 most (filmF [10, 10] L) L.length w → due ≠ 0 := fun w hw => by
    have h1 := hw.pos (L.length - 1) (by omega)
    have h2 : (reachL 0 most (filmF [10, 10] L) (L.length - 1)).any id = true := reach_any _ |>.2 ⟨_, hw.at_ _ (by omega), h1⟩
    intro e
    rw [hz, h2] at e; cases e
  have hlik : due ≠ 0 → 0 ≤ bestV (filmF [10, 10] L) (costC 0 most us (filmF [10, 10] L) L.length) ∧ likV [10, 10] L 0 most us = (outQ 0 most us (filmF [10, 10] L) (costC 0 most us (filmF [10, 10] L) L.length) L.length, bestV (filmF [10, 10] L) (costC 0 most us (filmF [10, 10] L) L.length), 0) := fun hne => by
    have h1 : 0 ≤ bestV (filmF [10, 10] L) (costC 0 most us (filmF [10, 10] L) L.length) := by
      rw [hbi, ← Bool.not_eq_false]; exact fun h2 => hne (hz.2 h2)
    refine ⟨h1, ?_⟩
    unfold likV
    rw [if_neg (fun h9 => h9 hcu), hcos, if_neg (by omega)]
  have hsv : due ≠ 0 → sureV [10, 10] L 0 most = (surePs [10, 10] L 0 most, 0) := fun hne => by
    unfold sureV
    rw [if_neg (fun h9 => h9 hc0), if_neg fun h2 => hne (hz.2 h2)]
  have hsl : (surePs [10, 10] L 0 most).length = L.length := by unfold surePs; simp
  have hsa : ∀ k, k < L.length → (surePs [10, 10] L 0 most).getD k zPh = phot (sureM [10, 10] (filmF [10, 10] L k) (okAt 0 most 0 (filmF [10, 10] L) L.length k) (filmF [10, 10] L k).length) := fun k hk => by unfold surePs; simp [List.getD, hk]
  have hpl : ∀ (k : Nat), (phot (sureM [10, 10] (filmF [10, 10] L k) (okAt 0 most 0 (filmF [10, 10] L) L.length k) (filmF [10, 10] L k).length)).l = sureM [10, 10] (filmF [10, 10] L k) (okAt 0 most 0 (filmF [10, 10] L) L.length k) (filmF [10, 10] L k).length := fun k => phot_l (sure_len _ _ _ _)
  have hphs : due ≠ 0 → PhsOk (surePs [10, 10] L 0 most) := fun hne k hk => by
    rw [hsl] at hk
    obtain ⟨hb, _⟩ := hlik hne
    have hW := (best_way hn hb).1
    obtain ⟨i, hi, e⟩ := List.getElem_of_mem (hW.at_ k hk)
    have hs := hW.sure (us := 0) hk hi (by rw [← e]; simp [List.getD, hi])
    rw [hsa k hk]
    refine ⟨fun q hq => ?_, ?_⟩
    · rw [hpl]; exact sure_ok stk2 _ q
    · rw [hpl]; exact sure_photo stk2 ⟨i, hi, hs⟩
  have hin : due ≠ 0 → ∀ w, Way 0 most (filmF [10, 10] L) L.length w → ∀ k, k < L.length → (0 ≤ w k ∧ w k < 100) ∧ shV [10, 10] ((surePs [10, 10] L 0 most).getD k zPh) (dig (digs [10, 10] (w k))) = (true, 0) := fun hne w hW k hk => by
    obtain ⟨i, hi, e⟩ := List.getElem_of_mem (hW.at_ k hk)
    have e2 : (filmF [10, 10] L k).getD i 0 = w k := by rw [← e]; simp [List.getD, hi]
    have hs := hW.sure (us := 0) hk hi e2
    have hv := hW.at_ k hk
    rw [film_at hk, vals_shows (h.ph hk)] at hv
    refine ⟨hv.1, sh_of (hphs hne k (by rw [hsl]; exact hk)).2 ?_⟩
    rw [hsa k hk, hpl, ← e2]
    exact sure_shows stk2 hi hs
  have hbw : due ≠ 0 → (∀ i, i < L.length → (likV [10, 10] L 0 most us).1.getD i 0 = (filmF [10, 10] L i).getD (idxP 0 most us (filmF [10, 10] L) (costC 0 most us (filmF [10, 10] L) L.length) i) 0) ∧ (likV [10, 10] L 0 most us).1.length = L.length := fun hne => by
    rw [(hlik hne).2]
    exact ⟨fun i hi => outQ_at hi, outQ_len ..⟩
  refine ⟨hnn, by rw [hw]; exact Prod.ext hd0.symm rfl, ?_, ?_, ?_, hcheck tr, fun hg => hwp _ (hck tr hg).2, ?_, ?_, ?_, ?_, ?_, ?_, ?_, ?_⟩
  · rw [hz]
    constructor
    · intro h1
      cases hs : stuckI 0 most (filmF [10, 10] L) L.length with
      | none =>
        unfold stuckI at hs
        rw [List.find?_eq_none] at hs
        have := hs (L.length - 1) (by simp; omega)
        rw [h1] at this; exact absurd rfl this
      | some k => unfold stuckV; rw [if_neg (fun h9 => h9 hc0), hs]
    · intro h1
      rw [← Bool.not_eq_true]
      intro h2
      rw [sv_n hc0 fun i hi => reach_all h2 i (by omega)] at h1
      cases h1
  · constructor
    · intro h1
      unfold likV
      rw [if_neg (fun h9 => h9 hcu), hcos, if_pos]
      have : ¬ 0 ≤ bestV (filmF [10, 10] L) (costC 0 most us (filmF [10, 10] L) L.length) := by
        rw [hbi, hz.1 h1]; decide
      omega
    · intro h1
      refine Decidable.byContradiction fun hne => ?_
      rw [(hlik hne).2] at h1; cases h1
  · constructor
    · intro h1
      unfold sureV
      rw [if_neg (fun h9 => h9 hc0), if_pos (hz.1 h1)]
    · intro h1
      refine Decidable.byContradiction fun hne => ?_
      rw [hsv hne] at h1; cases h1
  · intro hne
    obtain ⟨h1, h2⟩ := hbw hne
    exact ck_y hc0 h2 (of_way (best_way hn (hlik hne).1).1 h1)
  · intro hne
    rw [hsv hne]; exact ⟨hsl, (hbw hne).2⟩
  · intro hne; rw [hsv hne]; exact hphs hne
  · intro hne i hi
    rw [hsv hne, (hbw hne).1 i hi]
    exact hin hne _ (best_way hn (hlik hne).1).1 i hi
  · intro hne hg i hi
    rw [hsv hne]
    exact (hin hne _ (hck tr hg).2 i hi).2
  · intro hne
    have h1 := (best_way hn (hlik hne).1).2
    rw [(hlik hne).2]
    show ownS us _ _ = bestV _ _
    rw [← h1]
    have key : ∀ (w w' : Nat → Int) (k : Nat), (∀ i, i < k → w i = w' i) → ownS us w k = ownS us w' k := by
      intro w w' k
      induction k with
      | zero => intro _; rfl
      | succ k ih =>
        intro he
        rw [ownS, ownS, ih fun i hi => he i (by omega), he k (by omega)]
        rcases Nat.eq_zero_or_pos k with h2 | h2
        · rw [if_pos h2, if_pos h2]
        · rw [he (k - 1) (by omega)]
    exact key _ _ _ fun i hi => outQ_at hi
  · intro hne hg
    rw [(hlik hne).2]
    exact (best_le hn (hck tr hg).2).2
  · intro hne
    rw [hsv hne]
    have h1 := ways2 (L := surePs [10, 10] L 0 most) (most := most) (hphs hne) (by rw [hsl]; exact hl) hm
    show (waysV [10, 10] (surePs [10, 10] L 0 most) 0 most).2 = 0 ∧ due ≤ (waysV [10, 10] (surePs [10, 10] L 0 most) 0 most).1
    rw [h1]
    refine ⟨rfl, ?_⟩
    show due ≤ wTot 0 most (filmF [10, 10] (surePs [10, 10] L 0 most)) ((surePs [10, 10] L 0 most).length - 1)
    rw [hsl, hd0]
    refine more_tot (us := 0) hn (fun k hk => by rw [film_at hk]; exact vals_nodup (h.ph hk)) fun k i hk hi hok => ?_
    have hpk := hphs hne
    rw [film_at (by rw [hsl]; exact hk), vals_shows (hpk.ph (by rw [hsl]; exact hk))]
    have hv : (filmF [10, 10] L k).getD i 0 ∈ filmF [10, 10] L k := getD_mem 0 hi
    refine ⟨?_, ?_⟩
    · have hv2 : (filmF [10, 10] L k).getD i 0 ∈ valsP [10, 10] (L.getD k zPh) := by rw [← film_at hk]; exact hv
      exact ((vals_mem (h.ph hk) _).1 hv2).1
    · rw [hsa k hk, hpl]; exact sure_shows stk2 hi hok
end Go.W

/- Photos that are drawn; sums of steps. -/
set_option linter.unusedVariables false
set_option linter.unusedSimpArgs false
namespace Go.W
open Go Go.Sx
/-- A photo in the making: it shows the digits, and others below the bases. -/
structure BlP (s a : List Int) (l : List VMk) : Prop where
  len : l.length = 8
  ok : okMs l
  has : ∀ w, w < s.length → hasM (l.getD w zMk) (a.getD w 0).toNat = true
  lt : ∀ w d, d < 128 → hasM (l.getD w zMk) d = true → w < s.length ∧ (d : Int) < s.getD w 0
structure BlS where
  l : List VMk
  at_ : Int
  sd : Int
  k : Nat
structure BlT where
  l : List VMk
  at_ : Int
  sd : Int
  j : Int
theorem set_getM {l : List VMk} {i w : Nat} {y : VMk} (h : i < l.length) : (l.set i y).getD w zMk = if i = w then y else l.getD w zMk := by
  simp only [List.getD, List.getElem?_set]
  by_cases e : i = w
  · subst e; simp [h]
  · simp [e]
theorem BlP.set {s a : List Int} {l : List VMk} (h : BlP s a l) {i : Nat} (hi : i < s.length) (h8 : s.length ≤ 8) {y : VMk} (hy : OkMk y) (h1 : hasM y (a.getD i 0).toNat = true) (h2 : ∀ d, d < 128 → hasM y d = true → (d : Int) < s.getD i 0) : BlP s a (l.set i y) := by
  have hl : i < l.length := by rw [h.len]; omega
  refine ⟨by rw [List.length_set, h.len], fun q => ?_, fun w hw => ?_, fun w d hd hh => ?_⟩
  · rw [set_getM hl]; split
    · exact hy
    · exact h.ok q
  · rw [set_getM hl]; split
    · rename_i e; subst e; exact h1
    · exact h.has w hw
  · rw [set_getM hl] at hh; split at hh
    · rename_i e; subst e; exact ⟨hi, h2 d hd hh⟩
    · exact h.lt w d hd hh
theorem BlP.put {s a : List Int} {l : List VMk} (h : BlP s a l) (hs : Stk s) (ha : DigOk s a) {i : Nat} (hi : i < s.length) {x : Int} (hx : 0 ≤ x ∧ x < s.getD i 0) : BlP s a (l.set i (putM (l.getD i zMk) x.toNat)) := by
  have hb := hs.bases i hi
  have h1 := ha i hi
  refine h.set hi hs.len8 (putM_ok (h.ok i) (by omega)) ?_ fun d hd hh => ?_
  · rw [has_put (by omega) (by omega), h.has i hi, Bool.or_true]
  · rw [has_put (by omega) hd, Bool.or_eq_true, decide_eq_true_iff] at hh
    rcases hh with hh | hh
    · omega
    · exact (h.lt i d hd hh).2
theorem BlP.full {s a : List Int} {l : List VMk} (h : BlP s a l) (hs : Stk s) (ha : DigOk s a) {i : Nat} (hi : i < s.length) : BlP s a (l.set i (fullM (s.getD i 0).toNat)) := by
  have hb := hs.bases i hi
  have h1 := ha i hi
  refine h.set hi hs.len8 (fullM_ok (by omega)) ?_ fun d hd hh => ?_
  · rw [has_full (by omega) (by omega), decide_eq_true_iff]; omega
  · rw [has_full (by omega) hd, decide_eq_true_iff] at hh; omega
theorem zPh_get (w : Nat) : zPh.l.getD w zMk = zMk := by
  match w with
  | 0 | 1 | 2 | 3 | 4 | 5 | 6 | 7 => rfl
  | _ + 8 => rfl
theorem BlP.of {s a : List Int} (hs : Stk s) (ha : DigOk s a) : BlP s a (phot (putW s a zPh.l s.length)).l := by
  have h8 := hs.len8
  have hl : (putW s a zPh.l s.length).length = 8 := by rw [putW_len]; rfl
  have hg := fun q => putW_get (s := s) (d := a) (l := zPh.l) (q := q) s.length (by rw [ph_len]; omega)
  have hd : ∀ w, w < s.length → (a.getD w 0).toNat < 128 := fun w hw => by have := ha w hw; have := hs.bases w hw; omega
  rw [phot_l hl]
  refine ⟨hl, putW_ok okMs_z hd _ (Nat.le_refl _), fun w hw => ?_, fun w d hd2 hh => ?_⟩
  · rw [hg, if_pos hw, has_put (hd w hw) (hd w hw)]; simp
  · rw [hg] at hh
    split at hh
    · rename_i hw
      rw [zPh_get, has_put (hd w hw) hd2, has_z, Bool.or_false, decide_eq_true_iff] at hh
      have := ha w hw
      exact ⟨hw, by omega⟩
    · rw [zPh_get, has_z] at hh; cases hh
theorem BlP.photo {s a : List Int} {l : List VMk} (h : BlP s a l) (hs : Stk s) (ha : DigOk s a) : OkPh (phot l) ∧ photoOk s (phot l).l = true ∧ showsM s (phot l).l a = true := by
  rw [phot_l h.len]
  refine ⟨fun q hq => by rw [phot_l h.len]; exact h.ok q, ?_, ?_⟩
  · unfold photoOk
    rw [List.all_eq_true]
    intro w hw
    have hw : w < 8 := by simpa using hw
    unfold phAt
    split
    · rename_i hws
      have hb := hs.bases w hws
      rw [Bool.and_eq_true, Bool.not_eq_true', decide_eq_false_iff_not]
      refine ⟨fun e => ?_, has_sub (h.ok w) (fullM_ok (by omega)) fun d hd hh => ?_⟩
      · have e2 : l.getD w zMk = zMk := mk_inj e
        have := h.has w hws
        rw [e2, has_z] at this; cases this
      · have := (h.lt w d hd hh).2
        rw [has_full (by omega) hd, decide_eq_true_iff]; omega
    · rename_i hws
      rw [decide_eq_true_iff]
      have e : l.getD w zMk = zMk := has_ext (h.ok w) okZ fun d hd => by
        rw [has_z, ← Bool.not_eq_true]; intro hh; exact hws (h.lt w d hd hh).1
      rw [e]; rfl
  · unfold showsM
    rw [List.all_eq_true]
    intro w hw
    exact h.has w (by simpa using hw)
theorem bl_put {l : List VMk} {i q : Nat} {y : VMk} {v : List Value} (h : i < l.length) (hq : q = i * 2) (hv : v = encMk y) : put (l.flatMap encMk) q v = (l.set i y).flatMap encMk := by
  subst hq hv; exact flat_put encMk_len _ _ _ h
theorem nums_cons {z : Int} {t : List Int} (hz : 0 ≤ z ∧ z ≤ 255) (ht : Nums 255 t) : Nums 255 (z :: t) := fun x hx => by
  rcases List.mem_cons.1 hx with rfl | hx
  · exact hz
  · exact ht x hx
theorem nums2 : Nums 255 ([10, 10] : List Int) := fun x hx => by simp at hx; omega
/-- Photos and values in the making. -/
structure WyS where
  k : Nat
  at_ : Int
  L : List VPh
  A : Option Addr
  c : Nat
  tr : List Int
  A2 : Option Addr
  c2 : Nat
theorem PhsOk.nil : PhsOk [] := fun k hk => by simp at hk
theorem PhsOk.snoc {L : List VPh} {p : VPh} (h : PhsOk L) (h1 : OkPh p) (h2 : photoOk [10, 10] p.l = true) : PhsOk (L ++ [p]) := fun k hk => by
  rcases Nat.lt_or_ge k L.length with h3 | h3
  · rw [show (L ++ [p]).getD k zPh = L.getD k zPh by simp only [List.getD]; rw [List.getElem?_append_left h3]]; exact h k h3
  · obtain rfl : k = L.length := by simp at hk; omega
    rw [show (L ++ [p]).getD L.length zPh = p by simp [List.getD]]; exact ⟨h1, h2⟩
def In100 (l : List Int) : Prop := ∀ i, i < l.length → 0 ≤ l.getD i 0 ∧ l.getD i 0 < 100
theorem In100.nil : In100 [] := fun k hk => by simp at hk
theorem In100.snoc {l : List Int} {x : Int} (h : In100 l) (hx : 0 ≤ x ∧ x < 100) : In100 (l ++ [x]) := fun k hk => by
  rcases Nat.lt_or_ge k l.length with h3 | h3
  · rw [show (l ++ [x]).getD k 0 = l.getD k 0 by simp only [List.getD]; rw [List.getElem?_append_left h3]]; exact h k h3
  · obtain rfl : k = l.length := by simp at hk; omega
    rw [show (l ++ [x]).getD l.length 0 = x by simp [List.getD]]; exact hx
theorem PhsOk.all {L : List VPh} (h : PhsOk L) : ∀ p ∈ L, OkPh p := fun p hp => by
  obtain ⟨i, hi, rfl⟩ := List.getElem_of_mem hp
  have := (h i hi).1
  simpa [List.getD, hi] using this
def ownL (us : Int) (l : List Int) (k : Nat) : Int := ownS us (fun k => l.getD k 0) k
theorem own_0 (us : Int) (l : List Int) : ownL us l 0 = 0 := rfl
theorem absW_max (n : Int) : max n (-n) = absW n := by unfold absW; split <;> omega
theorem own_s1 {us : Int} {l : List Int} {k : Nat} (h : 0 < k) : ownL us l k + max (l.getD k 0 - l.getD (k - 1) 0 - us) (-(l.getD k 0 - l.getD (k - 1) 0 - us)) = ownL us l (k + 1) := by
  unfold ownL; rw [ownS, if_neg (by omega), absW_max]
theorem own_s0 {us : Int} {l : List Int} {k : Nat} (h : k = 0) : ownL us l k = ownL us l (k + 1) := by
  unfold ownL; rw [ownS, if_pos h, Int.add_zero]
theorem own_bd {us : Int} {l : List Int} (h : In100 l) (hu : 0 ≤ us ∧ us ≤ 1000) : ∀ k, k ≤ l.length → 0 ≤ ownL us l k ∧ ownL us l k ≤ 2000 * k
  | 0, _ => by simp [own_0]
  | k + 1, hk => by
    have ih := own_bd h hu k (by omega)
    rcases Nat.eq_zero_or_pos k with h0 | h0
    · rw [← own_s0 h0]; omega
    · rw [← own_s1 h0]
      have h1 := h k (by omega)
      have h2 := h (k - 1) (by omega)
      omega
end Go.W

/- Arrays of arrays compared with themselves. -/
set_option linter.unusedVariables false
set_option linter.unusedSimpArgs false
namespace Go.Sx
open Go Go.RowKit
variable {C : Cx} {env env' : Env} {m m' : List Ent} {o : Oper}
theorem EqOk.rowsSelf {α : Type} {f : α → List Value} {sz : Nat} (hf : ∀ x, (f x).length = sz) (z : α) {P : Program} {d : Nat} {t e : TypeId} {n : Nat} {i : TypeInfo} {dd : TypeDesc} (hu : P.underlying t = some (.array n e)) (hi : P.info? e = some i) (hs : i.size = sz) (hT : P.underlying e = some dd) (hd : aggD dd = true) (xs : List α) (hx : xs.length = n)
    (he : ∀ x, EqOk P d e (.agg (f x).toArray) (.agg (f x).toArray) true) : EqOk P (d + 1) t (.agg (xs.flatMap f).toArray) (.agg (xs.flatMap f).toArray) true := fun w => by
  rw [run_equalIn_array w d _ _ hu hi, show P.cellsOf e = sz by simp [Program.cellsOf, hi, hs]]
  have key : ∀ is : List Nat, (∀ j, j ∈ is → j < xs.length) → (Op.eqItems d e sz (xs.flatMap f).toArray (xs.flatMap f).toArray is).run P w = .ok true w := by
    intro is
    induction is with
    | nil => intro _; simp [Op.eqItems]
    | cons j is ih =>
      intro h
      have hp := run_partN (P := P) (T := e) (n := sz) hT hd (by rw [hi]; simp [hs]) (cs := xs.flatMap f) (k := j * sz) w
      rw [flat_seg hf z xs j (h j (by simp))] at hp
      simp only [Op.eqItems, Sem.run_bind, hp, Result.andThen_ok, he (xs.getD j z) w]
      simp only [Bool.not_true, Bool.false_eq_true, if_false]
      exact ih fun q hq => h q (by simp [hq])
  exact key _ fun j hj => by rw [hx]; simpa using hj
theorem row_blk {i n c sz : Nat} {A : Option Addr} {E xs} (hi : m[i]? = some (.row (.slice A n c) E sz n xs)) (hn : 0 < n) : ∀ w, Holds C.base C.w0 m w → ∃ g, A = some ⟨g, 0, none⟩ := fun w hw => by
  have h := hw.all _ (List.mem_of_getElem? hi)
  rcases h.2 with ⟨_, h0⟩ | ⟨g, cap, cur, hv, _⟩
  · omega
  · simp only [Value.slice.injEq] at hv
    exact ⟨g, hv.1⟩
theorem fr_neq_bool_same {T x y T' p} (ho : o.op = .binOp .neq T x y T') (hx : ev env x = some (.bool p)) (hy : ev env y = some (.bool p)) (hT : C.P.underlying T = some .bool) : Free C o env m (.bool false) := by
  have := fr_neq_bool (m := m) ho hx hy hT
  rwa [show (p != p) = false by simp] at this
end Go.Sx

/- A slice that came in and is nil has no room. -/
set_option linter.unusedVariables false
set_option linter.unusedSimpArgs false
namespace Go.Sx
open Go Go.RowKit Go.WideShapes
theorem Cl.nil {P : Program} {W : World} {t e : TypeId} {A : Option Addr} {n c : Nat} (ht : P.underlying t = some (.slice e)) (h : Cl P W t [.slice A n c]) (hA : A = none) : n = 0 ∧ c = 0 := by
  subst hA
  obtain ⟨H, enc, fuel, d, ps, h⟩ := h
  cases fuel with
  | zero => simp [DataW.trod] at h
  | succ fuel =>
    simp only [DataW.trod, ht] at h
    split at h <;> first | (cases h; done) | skip
    all_goals simp_all
end Go.Sx
