/- More rules: records compared. -/
import Derived.Test.YthfbmkfbmmjchaaDoorFw
set_option linter.unusedVariables false
set_option linter.unusedSimpArgs false
namespace Go.Sx
open Go Go.RowKit
variable {C : Cx} {env env' : Env} {m m' : List Ent} {o : Oper}
/-- The model finds x and y equal (b = true), or not. -/
def EqOk (P : Program) (d : Nat) (T : TypeId) (x y : Value) (b : Bool) : Prop := ∀ w, (Op.equalIn d T x y).run P w = .ok b w
def EqFs (P : Program) (d : Nat) (xs ys : List Value) (fs : List Field) (b : Bool) : Prop := ∀ w, (Op.eqFields d xs.toArray ys.toArray fs).run P w = .ok b w
theorem EqOk.int {P : Program} {d : Nat} {T : TypeId} {k : IntKind} {p q : Int} (hT : P.underlying T = some (.int k)) : EqOk P (d + 1) T (.int k p) (.int k q) (decide (p = q)) := fun w => by
  rw [run_equalIn_int w d T k k p q hT]; congr 1
theorem EqOk.bool {P : Program} {d : Nat} {T : TypeId} {p q : Bool} (hT : P.underlying T = some .bool) : EqOk P (d + 1) T (.bool p) (.bool q) (p == q) := fun w => run_equalIn_bool' w d T p q hT
theorem EqOk.str {P : Program} {d : Nat} {T : TypeId} {p q : ByteArray} (hT : P.underlying T = some .string) : EqOk P (d + 1) T (.string p) (.string q) (p.toList == q.toList) := fun w => run_equalIn_string w d T p q hT
theorem EqOk.ints {P : Program} {d : Nat} {t e : TypeId} {k : IntKind} {n : Nat} {i : TypeInfo} (hu : P.underlying t = some (.array n e)) (hi : P.info? e = some i) (hs : i.size = 1) (he : P.underlying e = some (.int k)) (xs ys : List Int) (hx : xs.length = n) (hy : ys.length = n) : EqOk P (d + 1 + 1) t (.agg (xs.flatMap (eI k)).toArray) (.agg (ys.flatMap (eI k)).toArray) (decide (xs = ys)) := fun w => by
  rw [run_equalIn_array w (d + 1) _ _ hu hi, show P.cellsOf e = 1 by simp [Program.cellsOf, hi, hs], List.range_eq_range']
  have := eqItems_ints he d xs ys (by omega) w n 0 (by omega)
  simpa using this
theorem EqOk.struct {P : Program} {d : Nat} {t : TypeId} {fs : Array Field} {fl : List Field} {xs ys : List Value} {b : Bool} (hu : P.underlying t = some (.struct fs)) (hfl : fs.toList = fl) (hp : P.stoodInHeld t = false) (h : EqFs P d xs ys fl b) : EqOk P (d + 1) t (.agg xs.toArray) (.agg ys.toArray) b := fun w => by
  have e : P.fieldsOf t = fs := by simp [Program.fieldsOf, hu]
  rw [run_equalIn_struct w d t _ _ (by rw [e]; exact hu) hp, e, hfl]
  exact h w
theorem EqFs.nil {P : Program} {d : Nat} {xs ys : List Value} : EqFs P d xs ys [] true := fun w => by simp [Op.eqFields]
theorem EqFs.step {P : Program} {d : Nat} {xs ys : List Value} {f : Field} {fs : List Field} {x y : Value} {b b' : Bool} (hn : (f.name != "_") = true) (px : ∀ w, (Go.part f.type xs.toArray f.offset).run P w = .ok x w) (py : ∀ w, (Go.part f.type ys.toArray f.offset).run P w = .ok y w) (he : EqOk P d f.type x y b) (h : EqFs P d xs ys fs b') : EqFs P d xs ys (f :: fs) (b && b') := fun w => by
  have hn' : f.name ≠ "_" := by simpa using hn
  simp only [Op.eqFields, hn', ne_eq, not_false_eq_true, if_true, Sem.run_bind, px w, py w, Result.andThen_ok, he w]
  cases b with
  | true => simp only [Bool.not_true, Bool.false_eq_true, if_false, Bool.true_and]; exact h w
  | false => simp
theorem EqFs.one {P : Program} {d : Nat} {xs ys : List Value} {f : Field} {fs : List Field} {x y : Value} {b b' : Bool} {dd : TypeDesc} (hn : (f.name != "_") = true) (hT : P.underlying f.type = some dd) (hd : aggD dd = false) (hx : xs[f.offset]? = some x) (hy : ys[f.offset]? = some y) (he : EqOk P d f.type x y b) (h : EqFs P d xs ys fs b') : EqFs P d xs ys (f :: fs) (b && b') :=
  EqFs.step hn (fun w => run_part1 hT hd (by simpa using hx) w) (fun w => run_part1 hT hd (by simpa using hy) w) he h
theorem EqFs.many {P : Program} {d : Nat} {xs ys : List Value} {f : Field} {fs : List Field} {cx cy : List Value} {b b' : Bool} {dd : TypeDesc} {n : Nat} (hn : (f.name != "_") = true) (hT : P.underlying f.type = some dd) (hd : aggD dd = true) (hs : (P.info? f.type).map (·.size) = some n) (hx : (xs.drop f.offset).take n = cx) (hy : (ys.drop f.offset).take n = cy) (he : EqOk P d f.type (.agg cx.toArray) (.agg cy.toArray) b) (h : EqFs P d xs ys fs b') : EqFs P d xs ys (f :: fs) (b && b') :=
  EqFs.step hn (fun w => by rw [run_partN hT hd hs w, hx]) (fun w => by rw [run_partN hT hd hs w, hy]) he h
theorem EqOk.as {P : Program} {d : Nat} {T : TypeId} {x y : Value} {b b' : Bool} (h : EqOk P d T x y b) (e : b = b') : EqOk P d T x y b' := e ▸ h
theorem fr_eql_rec {T x y T' b} {xs ys : List Value} (hq : EqOk C.P 10000 T (.agg xs.toArray) (.agg ys.toArray) b) (ho : o.op = .binOp .eql T x y T') (hx : ev env x = some (.agg xs.toArray)) (hy : ev env y = some (.agg ys.toArray)) (hg : C.P.eqGuardType C.P.depth T = false) : Free C o env m (.bool b) := by
  unfold Free
  intro a w hr _
  have h : (binOp .eql T (.agg xs.toArray) (.agg ys.toArray)).run C.P w = .ok (.bool b) w := by rw [run_eql_struct]; rw [hq w]; rfl
  simp only [execOp, ho, hr.ev hx, hr.ev hy, Sem.run_bind, guard_agg _ _ _ _ _ _ hg, Result.andThen_ok, h]; rfl
theorem fr_neq_rec {T x y T' b} {xs ys : List Value} (hq : EqOk C.P 10000 T (.agg xs.toArray) (.agg ys.toArray) b) (ho : o.op = .binOp .neq T x y T') (hx : ev env x = some (.agg xs.toArray)) (hy : ev env y = some (.agg ys.toArray)) (hg : C.P.eqGuardType C.P.depth T = false) : Free C o env m (.bool (!b)) := by
  unfold Free
  intro a w hr _
  have h : (binOp .neq T (.agg xs.toArray) (.agg ys.toArray)).run C.P w = .ok (.bool (!b)) w := by rw [run_neq_struct]; rw [hq w]; rfl
  simp only [execOp, ho, hr.ev hx, hr.ev hy, Sem.run_bind, guard_agg _ _ _ _ _ _ hg, Result.andThen_ok, h]; rfl
end Go.Sx
namespace Go.Sx
open Go Go.RowKit
variable {C : Cx} {env env' : Env} {m m' : List Ent} {Q Q' : Post}
/-! ### Loops in which a slice grows -/
structure HandA (V : Nat → Option Addr → Nat → Env) (Kp : Env) (M : Nat → Option Addr → Nat → List Ent) (Mk : List Ent) (I : Nat → Prop) (μ : Nat → Nat) (k : Nat) (A : Option Addr) (c : Nat) (env' : Env) (m' : List Ent) : Prop where
  out : Hand (X := Nat × Option Addr × Nat) (fun x => V x.1 x.2.1 x.2.2) Kp (fun x => M x.1 x.2.1 x.2.2) Mk (fun x => I x.1) (fun x => μ x.1) (k, A, c) env' m'
theorem HandA.of {V : Nat → Option Addr → Nat → Env} {Kp : Env} {M : Nat → Option Addr → Nat → List Ent} {Mk : List Ent} {I : Nat → Prop} {μ : Nat → Nat} {k : Nat} {A : Option Addr} {c : Nat} (k' : Nat) (A' : Option Addr) (c' : Nat) (t : Nat) (is : List Nat) (hV : Agree (V k' A' c') env') (hK : Agree Kp env') (hM : pickT m' t is = some (M k' A' c' ++ Mk)) (hf : freshT t is = true) (hI : I k') (hlt : μ k' < μ k) : HandA V Kp M Mk I μ k A c env' m' :=
  ⟨Hand.mk (k', A', c') t is hV hK hM hf hI hlt⟩
theorem Ex.loopA {c : Code} (V : Nat → Option Addr → Nat → Env) (M : Nat → Option Addr → Nat → List Ent) (I : Nat → Prop) (μ : Nat → Nat) (k0 : Nat) (A0 : Option Addr) (c0 : Nat) (Kp : Env) (Mk : List Ent) (t : Nat) (is : List Nat) (hV : Agree (V k0 A0 c0) env) (hK : Agree Kp env) (hM : pickT m t is = some (M k0 A0 c0 ++ Mk)) (hf : freshT t is = true) (h0 : I k0)
    (hr : ∀ k A cc, I k → Ex C c (V k A cc ++ Kp) (M k A cc ++ Mk) (Sq (HandA V Kp M Mk I μ k A cc) Q)) : Ex C (.loop c) env m Q :=
  Ex.loopK (X := Nat × Option Addr × Nat) (fun x => V x.1 x.2.1 x.2.2) (fun x => M x.1 x.2.1 x.2.2) (fun x => I x.1) (fun x => μ x.1) (k0, A0, c0) Kp Mk t is hV hK hM hf h0 (fun x hI => (hr x.1 x.2.1 x.2.2 hI).mono (fun e env m h => by
    cases e with
    | normal => exact h.out
    | exit k => exact h
    | goto k => exact h
    | ret => exact h
    | panic k => exact h
    | outgrown => exact h))
structure HandB (V : Nat → Option Addr → Nat → Option Addr → Nat → Env) (Kp : Env) (M : Nat → Option Addr → Nat → Option Addr → Nat → List Ent) (Mk : List Ent) (I : Nat → Prop) (μ : Nat → Nat) (k : Nat) (A : Option Addr) (c : Nat) (A2 : Option Addr) (c2 : Nat) (env' : Env) (m' : List Ent) : Prop where
  out : Hand (X := Nat × Option Addr × Nat × Option Addr × Nat) (fun x => V x.1 x.2.1 x.2.2.1 x.2.2.2.1 x.2.2.2.2) Kp (fun x => M x.1 x.2.1 x.2.2.1 x.2.2.2.1 x.2.2.2.2) Mk (fun x => I x.1) (fun x => μ x.1) (k, A, c, A2, c2) env' m'
theorem HandB.of {V : Nat → Option Addr → Nat → Option Addr → Nat → Env} {Kp : Env} {M : Nat → Option Addr → Nat → Option Addr → Nat → List Ent} {Mk : List Ent} {I : Nat → Prop} {μ : Nat → Nat} {k : Nat} {A : Option Addr} {c : Nat} {A2 : Option Addr} {c2 : Nat} (k' : Nat) (A' : Option Addr) (c' : Nat) (A2' : Option Addr) (c2' : Nat) (t : Nat) (is : List Nat) (hV : Agree (V k' A' c' A2' c2') env') (hK : Agree Kp env') (hM : pickT m' t is = some (M k' A' c' A2' c2' ++ Mk)) (hf : freshT t is = true) (hI : I k') (hlt : μ k' < μ k) : HandB V Kp M Mk I μ k A c A2 c2 env' m' :=
  ⟨Hand.mk (k', A', c', A2', c2') t is hV hK hM hf hI hlt⟩
theorem Ex.loopB {c : Code} (V : Nat → Option Addr → Nat → Option Addr → Nat → Env) (M : Nat → Option Addr → Nat → Option Addr → Nat → List Ent) (I : Nat → Prop) (μ : Nat → Nat) (k0 : Nat) (A0 : Option Addr) (c0 : Nat) (B0 : Option Addr) (e0 : Nat) (Kp : Env) (Mk : List Ent) (t : Nat) (is : List Nat) (hV : Agree (V k0 A0 c0 B0 e0) env) (hK : Agree Kp env) (hM : pickT m t is = some (M k0 A0 c0 B0 e0 ++ Mk)) (hf : freshT t is = true) (h0 : I k0)
    (hr : ∀ k A cc A2 c2, I k → Ex C c (V k A cc A2 c2 ++ Kp) (M k A cc A2 c2 ++ Mk) (Sq (HandB V Kp M Mk I μ k A cc A2 c2) Q)) : Ex C (.loop c) env m Q :=
  Ex.loopK (X := Nat × Option Addr × Nat × Option Addr × Nat) (fun x => V x.1 x.2.1 x.2.2.1 x.2.2.2.1 x.2.2.2.2) (fun x => M x.1 x.2.1 x.2.2.1 x.2.2.2.1 x.2.2.2.2) (fun x => I x.1) (fun x => μ x.1) (k0, A0, c0, B0, e0) Kp Mk t is hV hK hM hf h0 (fun x hI => (hr x.1 x.2.1 x.2.2.1 x.2.2.2.1 x.2.2.2.2 hI).mono (fun e env m h => by
    cases e with
    | normal => exact h.out
    | exit k => exact h
    | goto k => exact h
    | ret => exact h
    | panic k => exact h
    | outgrown => exact h))
end Go.Sx
namespace Go.Sx
open Go Go.RowKit
variable {C : Cx} {env env' : Env} {m m' : List Ent} {o : Oper} {K : Env → List Ent → Prop}
/-! ### Cells written one behind the other -/
theorem over_cell {M L : List Value} {p q : Nat} {v : Value} (hl : M.length = L.length) (hp : p < L.length) (hq : q = p) (hv : M[p]? = some v) : put (over M L p) q [v] = over M L (p + 1) := by
  subst hq
  have := over_put (f := fun v => [v]) (sz := 1) (fun _ => rfl) undef (d' := M) (d := L) hl hp (i := q) (by omega) (v := [v]) (by simp [List.getD, hv])
  simpa using this
theorem over_roomC {M L : List Value} {p q : Nat} {new : List Value} (hl : M.length = L.length) (hp : p < L.length) (hq : q = p) (hn : new.length = 1) : q + new.length ≤ (over M L p).length := by
  rw [over_len hl, hn]; omega
theorem op_storeRowF {i k n c : Nat} {A T E sz xs ys x y v new n'} (ho : o.op = .store T x y) (hx : ev env x = some (.pointer (offA A k))) (hy : ev env y = some v) (hc : v.cells = List.toArray new) (hone : new.all (·.oneCell') = true) (hs : (C.P.info? T).map (·.size) = some n') (hn : Nat.beq new.length n' = true) (hi : m[i]? = some (.row (.slice A n c) E sz n xs)) (hk : k + new.length ≤ xs.length) (hne : new ≠ []) (hd : o.dst = none) (hput : put xs k new = ys)
    (h : K env (m.set i (.row (.slice A n c) E sz n ys))) : Op1 C o env m K := by
  subst hput
  exact op_storeRow ho hx hy hc hone hs hn hi hk hne hd h
end Go.Sx
namespace Go.Sx
open Go Go.RowKit
variable {C : Cx} {env : Env} {m : List Ent} {o : Oper}
theorem fr_fieldAddrR (j : Nat) {S x} {k q : Nat} {fs : Array Field} {g : Field} {n' n c E sz : Nat} {A : Option Addr} {xs : List Value} (hm : m[j]? = some (.row (.slice A n c) E sz n xs)) (hn0 : 0 < n) (ho : o.op = .fieldAddr S x k) (hx : ev env x = some (.pointer (offA A q))) (hS : C.P.underlying S = some (.struct fs)) (hg : fs[k]? = some g) (hs : (C.P.info? g.type).map (·.size) = some n') (hn : Nat.beq n' 0 = false) : Free C o env m (.pointer (offA A (q + g.offset))) := by
  have key := fun hA => fr_fieldAddr_o (C := C) (m := m) (o := o) (f := g) ho hx hA hS hg hs hn
  unfold Free at key ⊢
  exact fun a w hr hw => key ((row_some hm w hw).2.2.2 hn0) a w hr hw
end Go.Sx
namespace Go.Sx
open Go Go.RowKit
variable {C : Cx} {env env' : Env} {m m' : List Ent} {l : List Oper} {o oi oj : Oper} {K : Env → List Ent → Prop} {S : List Ent} {fuel : Nat} {done : List Nat} {i j di dj : Nat} {T : TypeId} {cs : List Value}
/-! ### A variable made at any time beside a chain of calls -/
theorem ExD.swap {v p : Value} (hne : i ≠ j) (hd : Nat.beq di dj = false) (hp : m'.Perm m) (h : ExD C l S fuel (j :: i :: done) ((dj, p) :: (di, v) :: env) m K) : ExD C l S fuel (i :: j :: done) ((di, v) :: (dj, p) :: env) m' K := by
  unfold ExD at h ⊢
  rw [lst_two l.length i j done hne]
  intro a w hr hh
  refine h a w ⟨hr.def0, hr.size, fun t v ht => hr.at_ t v ?_⟩ (hh.perm hp)
  simp only [look] at ht ⊢
  cases e1 : Nat.beq dj t with
  | true =>
    have e := Nat.eq_of_beq_eq_true e1
    subst e
    simp only [hd, e1, cond_true, cond_false] at ht ⊢; exact ht
  | false =>
    rw [e1] at ht
    cases e2 : Nat.beq di t with
    | true => simp only [e2, e1, cond_true, cond_false] at ht ⊢; exact ht
    | false => simp only [e2, e1, cond_true, cond_false] at ht ⊢; exact ht
/-- The operation makes a variable, whatever stands. -/
def Alc (C : Cx) (o : Oper) (d : Nat) (T : TypeId) (cs : List Value) : Prop := ∀ env m K, (∀ b, K ((d, .pointer (some ⟨b, 0, none⟩)) :: env) (.blk b cs T :: m)) → Op1 C o env m K
theorem Alc.of {d : Nat} {z} (ho : o.op = .alloc T) (hz : (C.P.info? T).bind (·.zero) = some z) (hc : z.cells = List.toArray cs) (hd : o.dst = some d) (hlt : Nat.blt d C.n = true) : Alc C o d T cs := fun _ _ _ h => op_alloc ho hz hc hd hlt h
/-- What is left, where the variable of j is not made yet; and what is left where it is. -/
def ExDF (C : Cx) (l : List Oper) (S : List Ent) (fuel : Nat) (done : List Nat) (env : Env) (m : List Ent) (K : Env → List Ent → Prop) (j dj : Nat) (T : TypeId) (cs : List Value) : Prop :=
  ExD C l S (fuel + 1) done env m K ∧ ∀ b, ExD C l S fuel (j :: done) ((dj, .pointer (some ⟨b, 0, none⟩)) :: env) (.blk b cs T :: m) K
theorem ExDF.start (j : Nat) (_ : l[j]? = some oj) (_ : Alc C oj dj T cs) (h : ExDF C l S fuel done env m K j dj T cs) : ExD C l S (fuel + 1) done env m K := h.1
theorem ExDF.step {X : Type} {v : X → Value} {n : X → List Ent} {H : X → Prop} (hi : l[i]? = some oi) (hj : l[j]? = some oj) (h2 : readyOk l done [i, j] = true) (h4 : nextOk l (j :: done) i = true) (hij : Nat.beq i j = false)
    (hgi : wantB l env oi = some true) (hgj : wantB l env oj = some true) (hgi' : ∀ b, wantB l ((dj, .pointer (some ⟨b, 0, none⟩)) :: env) oi = some true) (hdd : Nat.beq di dj = false) (hS : S.Sublist m) (ha : Alc C oj dj T cs)
    (ci : ∀ K', (∀ x, H x → K' ((di, v x) :: env) (n x ++ m)) → Op1 C oi env m K')
    (ci' : ∀ b, ∀ K', (∀ x, H x → K' ((di, v x) :: (dj, .pointer (some ⟨b, 0, none⟩)) :: env) (n x ++ .blk b cs T :: m)) → Op1 C oi ((dj, .pointer (some ⟨b, 0, none⟩)) :: env) (.blk b cs T :: m) K')
    (h : ∀ x, H x → ExDF C l S fuel (i :: done) ((di, v x) :: env) (n x ++ m) K j dj T cs) : ExDF C l S (fuel + 1) done env m K j dj T cs := by
  have hne : i ≠ j := fun e => by subst e; simp at hij
  have h5 : ∀ b, ExD C l S (fuel + 1) (j :: done) ((dj, .pointer (some ⟨b, 0, none⟩)) :: env) (.blk b cs T :: m) K := fun b =>
    ExD.op hi h4 (hgi' b) (ci' b _ fun x hx => ⟨(hS.cons _).trans (List.sublist_append_right _ _), ExD.swap hne hdd List.perm_middle ((h x hx).2 b)⟩)
  refine ⟨ExD.ops h2 (by simp) fun k hk => ?_, h5⟩
  rcases List.mem_cons.1 hk with rfl | hk
  · exact ⟨oi, hi, hgi, ci _ fun x hx => ⟨hS.trans (List.sublist_append_right _ _), (h x hx).1⟩⟩
  · obtain rfl : k = j := by simpa using hk
    exact ⟨oj, hj, hgj, ha _ _ _ fun b => ⟨hS.cons _, h5 b⟩⟩
theorem ExDF.take {v : Value} (hi : l[i]? = some o) (ht : takeOk l done i = true) (ht' : takeOk l (j :: done) i = true) (hij : Nat.beq i j = false) (hf : Free C o env S v) (hf' : ∀ b, Free C o ((dj, .pointer (some ⟨b, 0, none⟩)) :: env) S v) (hS : S.Sublist m) (hg : wantB l env o = some true) (hg' : ∀ b, wantB l ((dj, .pointer (some ⟨b, 0, none⟩)) :: env) o = some true)
    (hd : o.dst = some di) (hlt : Nat.blt di C.n = true) (hdd : Nat.beq di dj = false) (h : ExDF C l S fuel (i :: done) ((di, v) :: env) m K j dj T cs) : ExDF C l S (fuel + 1) done env m K j dj T cs :=
  have hne : i ≠ j := fun e => by subst e; simp at hij
  ⟨ExD.take hi ht hf hS hg hd hlt h.1, fun b => ExD.take hi ht' (hf' b) (hS.cons _) (hg' b) hd hlt (ExD.swap hne hdd (List.Perm.refl _) (h.2 b))⟩
theorem ExDF.fin (hj : l[j]? = some oj) (hn : nextOk l done j = true) (hg : wantB l env oj = some true) (hS : S.Sublist m) (ha : Alc C oj dj T cs) (h : ∀ b, ExD C l S fuel (j :: done) ((dj, .pointer (some ⟨b, 0, none⟩)) :: env) (.blk b cs T :: m) K) : ExDF C l S fuel done env m K j dj T cs :=
  ⟨ExD.op hj hn hg (ha _ _ _ fun b => ⟨hS.cons _, h b⟩), h⟩
end Go.Sx
namespace Go.Sx
open Go Go.RowKit
theorem t4 {a b c d a' b' c' d' : Value} (h : a = a') (h1 : b = b') (h2 : c = c') (h3 : d = d') : tupleOf [a, b, c, d] = .tuple #[a', b', c', d'] := by rw [h, h1, h2, h3]; rfl
theorem t5 {a b c d e a' b' c' d' e' : Value} (h : a = a') (h1 : b = b') (h2 : c = c') (h3 : d = d') (h4 : e = e') : tupleOf [a, b, c, d, e] = .tuple #[a', b', c', d', e'] := by rw [h, h1, h2, h3, h4]; rfl
end Go.Sx
namespace Go.Sx
open Go Go.RowKit
theorem perm_4 {m : List Ent} {a b c d : Ent} (i j k l : Nat) (h1 : m[i]? = some a) (h2 : (m.eraseIdx i)[j]? = some b) (h3 : ((m.eraseIdx i).eraseIdx j)[k]? = some c) (h4 : (((m.eraseIdx i).eraseIdx j).eraseIdx k)[l]? = some d) : m.Perm ([a, b, c, d] ++ (((m.eraseIdx i).eraseIdx j).eraseIdx k).eraseIdx l) :=
  (perm_at h1).trans (List.Perm.cons a ((perm_at h2).trans (List.Perm.cons b ((perm_at h3).trans (List.Perm.cons c (perm_at h4))))))
end Go.Sx
namespace Go.Sx
open Go Go.RowKit
variable {C : Cx} {env : Env} {m : List Ent} {o : Oper}
theorem fr_indexAddrRo (j0 : Nat) {S x y E N} {q sz' n c E' sz : Nat} {kk : IntKind} {j : Int} {A : Option Addr} {xs : List Value} (hm : m[j0]? = some (.row (.slice A n c) E' sz n xs)) (hn0 : 0 < n) (ho : o.op = .indexAddr S x y) (hx : ev env x = some (.pointer (offA A q))) (hy : ev env y = some (.int kk j)) (hS : C.P.underlying S = some (.array N E)) (hs : (C.P.info? E).map (·.size) = some sz') (hj : 0 ≤ j ∧ j < (N : Nat)) : Free C o env m (.pointer (offA A (q + j.toNat * sz'))) := by
  have key := fun hA => fr_indexAddr_o (C := C) (m := m) (o := o) ho hx hA hy hS hs hj
  unfold Free at key ⊢
  exact fun a w hr hw => key ((row_some hm w hw).2.2.2 hn0) a w hr hw
end Go.Sx
