/- The program's best plan, in plain numbers: what its loops carry on. -/
import Derived.Test.YthfbmkfbmmjchaaDoorM17
set_option linter.unusedVariables false
set_option linter.unusedSimpArgs false
namespace Go.W
open Go Go.Sx
theorem fr_indexAddrE {β : Type} {C : Cx} {env : Env} {m : List Ent} {o : Oper} {A : Option Addr} {f : β → List Value} {sz : Nat} {xs : List β} {n : Nat} {S x y E c k i} (he : xs.length = n) (H : Reads C m A (xs.flatMap f)) (hf : ∀ x, (f x).length = sz) (ho : o.op = .indexAddr S x y) (hx : ev env x = some (.slice A n c)) (hy : ev env y = some (.int k i)) (hS : C.P.underlying S = some (.slice E)) (hs : (C.P.info? E).map (·.size) = some sz) (hp : Nat.blt 0 sz = true) (hi : 0 ≤ i ∧ i < n) : Free C o env m (.pointer (offA A (i.toNat * sz))) := by
  subst he; exact fr_indexAddrF H hf ho hx hy hS hs hp hi
theorem rd_nil (w : World) : Rd w zPl.A (zPl.xs.flatMap (eI .i64)) := fun j u hj => by simp [zPl] at hj
theorem pl_put {Q : List VPl} {i q : Nat} {v : List Value} (r : VPl) (h : i < Q.length) (hq : q = i * 3) (hv : v = encPl r) : put (Q.flatMap encPl) q v = (Q.set i r).flatMap encPl := by
  subst hq hv; exact flat_put encPl_len _ _ _ h
theorem pl_zero {zs : List Value} {n : Nat} (h : zs = encPl zPl) : zerosL zs n = (List.replicate n zPl).flatMap encPl := by
  subst h; exact zeros_flat encPl_len zPl (by omega) n
theorem set_at {Q : List VPl} {i k : Nat} {r : VPl} (h : i < Q.length) : (Q.set i r).getD k zPl = if k = i then r else Q.getD k zPl := by
  simp only [List.getD]
  by_cases e : k = i
  · subst e; rw [if_pos rfl, List.getElem?_set_self h]; rfl
  · rw [if_neg e, List.getElem?_set_ne (fun e' => e e'.symm)]
theorem less_cost {p q : VT} (h : lessT p q = true) : p.cost ≤ q.cost := by
  unfold lessT at h
  have := of_decide_eq_true h
  unfold c3 at this
  by_cases h1 : q.cost < p.cost
  · rw [if_neg (by omega : ¬ p.cost < q.cost), if_pos h1] at this; simp at this
  · omega
theorem less_not {p q : VT} (h : lessT p q = false) : q.cost ≤ p.cost := by
  unfold lessT at h
  have := of_decide_eq_false h
  unfold c3 at this
  by_cases h1 : p.cost < q.cost
  · rw [if_pos h1] at this; simp at this
  · omega
/-- Bounds of a list of plans. -/
def TBd (L : List VT) : Prop := ∀ j, j < L.length → (0 ≤ (L.getD j zT0).cost ∧ (L.getD j zT0).cost ≤ (j : Int)) ∧ (0 ≤ (L.getD j zT0).breaks ∧ (L.getD j zT0).breaks ≤ (j : Int)) ∧ (L.getD j zT0).kept.length ≤ j + 1
theorem inT_bd {fit : Nat → Nat → Bool} {n d : Nat} {wo : Int} {L : List VT} (h : TBd L) (hl : L.length = d) : ∀ m, m ≤ d → (0 ≤ (innT fit n wo d L m).cost ∧ (innT fit n wo d L m).cost ≤ (d : Int)) ∧ (0 ≤ (innT fit n wo d L m).breaks ∧ (innT fit n wo d L m).breaks ≤ (d : Int)) ∧ (innT fit n wo d L m).kept.length ≤ d + 1
  | 0, _ => by
    refine ⟨⟨?_, ?_⟩, ⟨?_, ?_⟩, ?_⟩ <;> simp [innT, fromT, zT0]
  | m + 1, hm => by
    have ih := inT_bd (fit := fit) (n := n) (wo := wo) h hl m (by omega)
    have h1 := h (d - 1 - m) (by omega)
    have h2 := brk_bd (fit (n - 1 - d) (n - d + m))
    rw [innT]
    split
    · exact ih
    · split
      · rename_i hq
        have h3 := less_cost hq
        refine ⟨⟨?_, Int.le_trans h3 ih.1.2⟩, ⟨?_, ?_⟩, ?_⟩
        · simp only [candT, fromT]; omega
        · simp only [candT, fromT]; omega
        · simp only [candT, fromT]; omega
        · simp only [candT, fromT, List.length_cons]; omega
      · exact ih
theorem tl_bd (fit : Nat → Nat → Bool) (n : Nat) (wo : Int) : ∀ d, TBd (tl fit n wo d)
  | 0 => fun j hj => by simp [tl] at hj
  | d + 1 => fun j hj => by
    have ih := tl_bd fit n wo d
    have hl := tl_len fit n wo d
    rw [tl_len] at hj
    rcases Nat.lt_or_ge j d with h1 | h1
    · have e : (tl fit n wo (d + 1)).getD j zT0 = (tl fit n wo d).getD j zT0 := by rw [tl_at hj, tl_at h1]
      rw [e]; exact ih j (by omega)
    · obtain rfl : j = d := by omega
      rw [tl_at (Nat.lt_succ_self j)]
      split
      · simp [zT0]
      · exact inT_bd ih hl j (Nat.le_refl _)
theorem bt_bd (fit : Nat → Nat → Bool) (n : Nat) (wo : Int) : ∀ d, d ≤ n → 0 ≤ (btT fit n wo d).2.cost ∧ (btT fit n wo d).2.cost ≤ (n : Int) ∧ (btT fit n wo d).2.kept.length ≤ n + 1
  | 0, _ => by simp [btT, zT0]
  | d + 1, hd => by
    have ih := bt_bd fit n wo d (by omega)
    have hi := inT_bd (fit := fit) (n := n) (wo := wo) (tl_bd fit n wo d) (tl_len fit n wo d) d (Nat.le_refl _)
    rw [btT]
    split
    · exact ih
    · split
      · simp only [addT]; omega
      · exact ih
/-- What the outer loop carries on. -/
structure BI (fit : Nat → Nat → Bool) (n : Nat) (wo : Int) (T : TypeId) (d : Nat) (Q : List VPl) (P : List Rw) (o : VPl) : Prop where
  dn : d ≤ n
  len : Q.length = n
  zero : ∀ k, k < n - d → Q.getD k zPl = zPl
  done : ∀ k, n - d ≤ k → k < n → (Q.getD k zPl).t = (tl fit n wo d).getD (n - 1 - k) zT0 ∧ OkPl T P (Q.getD k zPl)
  out : o.t = (btT fit n wo d).2
  ok : OkPl T P o
/-- What the inner loop carries on. -/
structure II (fit : Nat → Nat → Bool) (n : Nat) (wo : Int) (T : TypeId) (d m : Nat) (Q : List VPl) (P : List Rw) (o : VPl) : Prop where
  dn : d < n
  mn : m ≤ d
  len : Q.length = n
  zero : ∀ k, k < n - 1 - d → Q.getD k zPl = zPl
  cur : (Q.getD (n - 1 - d) zPl).t = innT fit n wo d (tl fit n wo d) m
  cok : OkPl T P (Q.getD (n - 1 - d) zPl)
  done : ∀ k, n - d ≤ k → k < n → (Q.getD k zPl).t = (tl fit n wo d).getD (n - 1 - k) zT0 ∧ OkPl T P (Q.getD k zPl)
  out : o.t = (btT fit n wo d).2
  ok : OkPl T P o
theorem bi_0 (fit : Nat → Nat → Bool) (n : Nat) (wo : Int) (T : TypeId) : BI fit n wo T 0 (List.replicate n zPl) [] zPl := by
  refine ⟨Nat.zero_le _, by simp, fun k hk => ?_, fun k h1 h2 => by omega, rfl, OkPl.zero _ _⟩
  simp only [List.getD, List.getElem?_replicate]; split <;> rfl
variable {fit : Nat → Nat → Bool} {n d m : Nat} {wo : Int} {T : TypeId} {Q : List VPl} {P : List Rw} {o : VPl}
theorem BI.skip (h : BI fit n wo T d Q P o) (hd : d < n) (hw : ((n - 1 - d : Nat) : Int) = wo) : BI fit n wo T (d + 1) Q P o := by
  refine ⟨by omega, h.len, fun k hk => h.zero k (by omega), fun k h1 h2 => ?_, ?_, h.ok⟩
  · by_cases e : k = n - 1 - d
    · have hz := h.zero k (by omega)
      rw [hz, tl_at (by omega), if_pos (by rw [show n - 1 - (n - 1 - k) = n - 1 - d by omega]; exact hw)]
      exact ⟨rfl, OkPl.zero _ _⟩
    · have := h.done k (by omega) h2
      rw [tl_at (by omega)] at this ⊢; exact this
  · rw [btT, if_pos hw]; exact h.out
theorem BI.start (h : BI fit n wo T d Q P o) (hd : d < n) (r : VPl) (hr : r.t = fromT zT0 ((n - 1 - d : Nat) : Int) d 0) (hs : r.A.isSome = true) : II fit n wo T d 0 (Q.set (n - 1 - d) r) (P ++ [rowPl T r]) o := by
  have hlt : n - 1 - d < Q.length := by rw [h.len]; omega
  refine ⟨hd, Nat.zero_le _, by rw [List.length_set]; exact h.len, fun k hk => ?_, ?_, ?_, fun k h1 h2 => ?_, h.out, h.ok.more _⟩
  · rw [set_at hlt, if_neg (by omega)]; exact h.zero k (by omega)
  · rw [set_at hlt, if_pos rfl]; exact hr
  · rw [set_at hlt, if_pos rfl]; exact .inl ⟨by simp, hs⟩
  · rw [set_at hlt, if_neg (by omega)]
    exact ⟨(h.done k h1 h2).1, (h.done k h1 h2).2.more _⟩
theorem II.skip (h : II fit n wo T d m Q P o) (hm : m < d) (hw : ((n - d + m : Nat) : Int) = wo) : II fit n wo T d (m + 1) Q P o :=
  ⟨h.dn, by omega, h.len, h.zero, by rw [innT, if_pos hw]; exact h.cur, h.cok, h.done, h.out, h.ok⟩
theorem II.cand (h : II fit n wo T d m Q P o) (hm : m < d) : (Q.getD (n - d + m) zPl).t = (tl fit n wo d).getD (d - 1 - m) zT0 ∧ OkPl T P (Q.getD (n - d + m) zPl) := by
  have h1 := h.dn
  have := h.done (n - d + m) (by omega) (by omega)
  rwa [show n - 1 - (n - d + m) = d - 1 - m by omega] at this
theorem II.keep (h : II fit n wo T d m Q P o) (hm : m < d) (hw : ¬ ((n - d + m : Nat) : Int) = wo) (r : VPl) (hr : r.t = candT fit n d (tl fit n wo d) m) (hq : lessT r.t (Q.getD (n - 1 - d) zPl).t = false) : II fit n wo T d (m + 1) Q (P ++ [rowPl T r]) o := by
  refine ⟨h.dn, by omega, h.len, h.zero, ?_, h.cok.more _, fun k h1 h2 => ⟨(h.done k h1 h2).1, (h.done k h1 h2).2.more _⟩, h.out, h.ok.more _⟩
  rw [innT, if_neg hw, if_neg (by rw [← hr, ← h.cur, hq]; decide)]; exact h.cur
theorem II.take (h : II fit n wo T d m Q P o) (hm : m < d) (hw : ¬ ((n - d + m : Nat) : Int) = wo) (r : VPl) (hr : r.t = candT fit n d (tl fit n wo d) m) (hs : r.A.isSome = true) (hq : lessT r.t (Q.getD (n - 1 - d) zPl).t = true) : II fit n wo T d (m + 1) (Q.set (n - 1 - d) r) (P ++ [rowPl T r]) o := by
  have hdn := h.dn
  have hlt : n - 1 - d < Q.length := by rw [h.len]; omega
  refine ⟨h.dn, by omega, by rw [List.length_set]; exact h.len, fun k hk => ?_, ?_, ?_, fun k h1 h2 => ?_, h.out, h.ok.more _⟩
  · rw [set_at hlt, if_neg (by omega)]; exact h.zero k hk
  · rw [set_at hlt, if_pos rfl, innT, if_neg hw, if_pos (by rw [← hr, ← h.cur, hq]), hr]
  · rw [set_at hlt, if_pos rfl]; exact .inl ⟨by simp, hs⟩
  · rw [set_at hlt, if_neg (by omega)]
    exact ⟨(h.done k h1 h2).1, (h.done k h1 h2).2.more _⟩
/-- The plan of the reading at hand, its start counted in. -/
def addP (p : VPl) (i : Int) : VPl := ⟨p.cost + i * 1, p.breaks, p.A, p.c, p.xs⟩
theorem addP_t (p : VPl) (i : Int) : (addP p i).t = addT p.t i := rfl
theorem II.base (h : II fit n wo T d d Q P o) (hw : ¬ ((n - 1 - d : Nat) : Int) = wo) : ∀ k, n - (d + 1) ≤ k → k < n → (Q.getD k zPl).t = (tl fit n wo (d + 1)).getD (n - 1 - k) zT0 ∧ OkPl T P (Q.getD k zPl) := fun k h1 h2 => by
  have hdn := h.dn
  by_cases e : k = n - 1 - d
  · subst e
    rw [show n - 1 - (n - 1 - d) = d by omega, tl_at (Nat.lt_succ_self d), if_neg hw]
    exact ⟨h.cur, h.cok⟩
  · have := h.done k (by omega) h2
    rw [tl_at (by omega)] at this ⊢; exact this
theorem OkPl.add {p : VPl} (h : OkPl T P p) (i : Int) : OkPl T P (addP p i) := h
theorem II.new (h : II fit n wo T d d Q P o) (hw : ¬ ((n - 1 - d : Nat) : Int) = wo) (hq : (btT fit n wo d).1 = false ∨ lessT (addP (Q.getD (n - 1 - d) zPl) ((n - 1 - d : Nat) : Int)).t o.t = true) : BI fit n wo T (d + 1) Q P (addP (Q.getD (n - 1 - d) zPl) ((n - 1 - d : Nat) : Int)) ∧ (btT fit n wo (d + 1)).1 = true := by
  have hdn := h.dn
  have e : btT fit n wo (d + 1) = (true, addT (innT fit n wo d (tl fit n wo d) d) ((n - 1 - d : Nat) : Int)) := by
    rw [btT, if_neg hw, if_pos (by rw [addP_t, h.cur, h.out] at hq; exact hq)]
  refine ⟨⟨by omega, h.len, fun k hk => h.zero k (by omega), h.base hw, ?_, h.cok.add _⟩, by rw [e]⟩
  rw [e, addP_t, h.cur]
theorem II.old (h : II fit n wo T d d Q P o) (hw : ¬ ((n - 1 - d : Nat) : Int) = wo) (hq : (btT fit n wo d).1 = true) (hq2 : lessT (addP (Q.getD (n - 1 - d) zPl) ((n - 1 - d : Nat) : Int)).t o.t = false) : BI fit n wo T (d + 1) Q P o ∧ (btT fit n wo (d + 1)).1 = true := by
  have hdn := h.dn
  have e : btT fit n wo (d + 1) = btT fit n wo d := by
    rw [btT, if_neg hw, if_neg (by rw [addP_t, h.cur, h.out] at hq2; rw [hq, hq2]; simp)]
  refine ⟨⟨by omega, h.len, fun k hk => h.zero k (by omega), h.base hw, by rw [e]; exact h.out, h.ok⟩, by rw [e]; exact hq⟩
structure BSt where
  d : Nat
  Q : List VPl
  P : List Rw
  o : VPl
structure ISt where
  m : Nat
  Q : List VPl
  P : List Rw
theorem II.cbd (h : II fit n wo T d m Q P o) (hm : m < d) : (0 ≤ (Q.getD (n - d + m) zPl).cost ∧ (Q.getD (n - d + m) zPl).cost ≤ (d : Int)) ∧ (0 ≤ (Q.getD (n - d + m) zPl).breaks ∧ (Q.getD (n - d + m) zPl).breaks ≤ (d : Int)) ∧ (Q.getD (n - d + m) zPl).xs.length ≤ d := by
  have h1 := (h.cand hm).1
  have h2 := tl_bd fit n wo d (d - 1 - m) (by rw [tl_len]; omega)
  rw [← h1] at h2
  have h3 : (0 ≤ (Q.getD (n - d + m) zPl).cost ∧ (Q.getD (n - d + m) zPl).cost ≤ ((d - 1 - m : Nat) : Int)) ∧ (0 ≤ (Q.getD (n - d + m) zPl).breaks ∧ (Q.getD (n - d + m) zPl).breaks ≤ ((d - 1 - m : Nat) : Int)) ∧ (Q.getD (n - d + m) zPl).xs.length ≤ d - 1 - m + 1 := h2
  omega
theorem II.ibd (h : II fit n wo T d m Q P o) : (0 ≤ (Q.getD (n - 1 - d) zPl).cost ∧ (Q.getD (n - 1 - d) zPl).cost ≤ (d : Int)) ∧ (0 ≤ (Q.getD (n - 1 - d) zPl).breaks ∧ (Q.getD (n - 1 - d) zPl).breaks ≤ (d : Int)) ∧ (Q.getD (n - 1 - d) zPl).xs.length ≤ d + 1 := by
  have h2 := inT_bd (fit := fit) (n := n) (wo := wo) (tl_bd fit n wo d) (tl_len fit n wo d) m h.mn
  rw [← h.cur] at h2; exact h2
theorem II.obd (h : II fit n wo T d m Q P o) : o.xs.length ≤ n + 1 := by
  have h2 := bt_bd fit n wo d (by have := h.dn; omega)
  rw [← h.out] at h2; exact h2.2.2
theorem canK_bool {K : List (VX Bool)} (h : CanK fit n K) {i j : Nat} (hi : i < K.length) (hij : i < j) (hj : j < n) : (K.getD i zX).xs.length = n ∧ (K.getD i zX).xs.getD j false = fit i j := by
  rw [h i hi]; exact ⟨canP_len _ _ _ _, canR_at hj hij⟩
end Go.W
