/- Lists of lists, the table of what fits, plans, in plain numbers. -/
import Derived.Test.YthfbmkfbmmjchaaDoorM16
set_option linter.unusedVariables false
set_option linter.unusedSimpArgs false
namespace Go.W
open Go Go.Sx
/-! ### A list of lists of anything -/
structure VX (α : Type) where
  A : Option Addr
  c : Nat
  xs : List α
variable {α : Type}
def encX (r : VX α) : List Value := [.slice r.A r.xs.length r.c]
theorem encX_len : ∀ r : VX α, (encX r).length = 1 := fun _ => rfl
def zX : VX α := ⟨none, 0, []⟩
def rwX (f : α → List Value) (T : TypeId) (sz : Nat) (r : VX α) : Rw := ⟨.slice r.A r.xs.length r.c, T, sz, r.xs.length, r.xs.flatMap f⟩
theorem readsX {C : Cx} {m : List Ent} {i : Nat} {f : α → List Value} {T : TypeId} {sz : Nat} {K : List (VX α)} (hi : m[i]? = some (.pile (K.map (rwX f T sz)))) {k : Nat} (hk : k < K.length) : Reads C m (K.getD k zX).A ((K.getD k zX).xs.flatMap f) :=
  Reads.pile hi (E := T) (sz := sz) (List.mem_map.2 ⟨_, getD_mem zX hk, rfl⟩)
def outX (K : List (VX α)) (n : Nat) : List (VX α) := K ++ List.replicate (n - K.length) zX
theorem outX_len {K : List (VX α)} {n : Nat} (h : K.length ≤ n) : (outX K n).length = n := by unfold outX; simp; omega
theorem outX_all {K : List (VX α)} {n : Nat} (h : K.length = n) : outX K n = K := by unfold outX; rw [h]; simp
theorem outX_set {K : List (VX α)} {n : Nat} (r : VX α) (h : K.length < n) : (outX K n).set K.length r = outX (K ++ [r]) n := by
  unfold outX
  rw [List.set_append_right _ _ (Nat.le_refl _), Nat.sub_self, List.length_append]
  obtain ⟨j, hj⟩ : ∃ j, n - K.length = j + 1 := ⟨n - K.length - 1, by omega⟩
  rw [hj, List.replicate_succ, List.set_cons_zero, List.append_assoc, show n - (K.length + [r].length) = j by simp; omega]; rfl
theorem outX_put {K : List (VX α)} {n i : Nat} {v : List Value} (r : VX α) (h : K.length < n) (hi : i = K.length * 1) (hv : v = encX r) : put ((outX K n).flatMap encX) i v = (outX (K ++ [r]) n).flatMap encX := by
  subst hi hv
  rw [flat_put encX_len _ _ _ (by rw [outX_len (by omega)]; exact h), outX_set r h]
theorem zoutX {zs : List Value} {n : Nat} (h : zs = encX (zX : VX α)) : zerosL zs n = (outX ([] : List (VX α)) n).flatMap encX := by
  subst h; rw [zeros_flat encX_len zX (by omega) n]; unfold outX; simp
theorem outX_last {K : List (VX α)} {r : VX α} {n : Nat} : (outX (K ++ [r]) n).getD K.length zX = r := by
  unfold outX; simp [List.getD]
theorem cellE {β : Type} {C : Cx} {m : List Ent} {A : Option Addr} {f : β → List Value} {sz : Nat} {xs : List β} {i : Int} (j : Nat) {v : Value} {r : β} (H : Reads C m A (xs.flatMap f)) (hf : ∀ x, (f x).length = sz) (d : β) (k : Nat) (hk : Nat.blt k sz = true) (hi : i = (j : Int)) (hj : j < xs.length) (he : xs.getD j d = r) (hv : (f r)[k]? = some v) : CellO C m (offA A (i.toNat * sz + k)) v := by
  subst he; exact cellJ j H hf d k hk hi hj hv
theorem layX {C : Cx} {m F : List Ent} {f : α → List Value} {T : TypeId} {sz b n : Nat} {l : List α} {K : List (VX α)} (hl : l.length = n) (hp : m.Perm (.row (.slice (some ⟨b, 0, none⟩) n n) T sz n (l.flatMap f) :: .pile (K.map (rwX f T sz)) :: F)) : ∀ w, Holds C.base C.w0 m w → Holds C.base C.w0 (.pile ((K ++ [(⟨some ⟨b, 0, none⟩, n, l⟩ : VX α)]).map (rwX f T sz)) :: F) w := by
  subst hl
  rw [List.map_append]
  exact layEnd hp
/-! ### The table of what fits -/
def canP (fit : Nat → Nat → Bool) (n i j : Nat) : List Bool := (List.range n).map fun k => decide (i < k ∧ k < j) && fit i k
def canR (fit : Nat → Nat → Bool) (n i : Nat) : List Bool := canP fit n i n
theorem canP_len (fit : Nat → Nat → Bool) (n i j : Nat) : (canP fit n i j).length = n := by simp [canP]
theorem canP_at {fit : Nat → Nat → Bool} {n i j k : Nat} (h : k < n) : (canP fit n i j).getD k false = (decide (i < k ∧ k < j) && fit i k) := by simp [canP, List.getD, h]
theorem canR_at {fit : Nat → Nat → Bool} {n i k : Nat} (h : k < n) (hi : i < k) : (canR fit n i).getD k false = fit i k := by
  unfold canR; rw [canP_at h, decide_eq_true ⟨hi, h⟩, Bool.true_and]
theorem canP_set {fit : Nat → Nat → Bool} {n i j : Nat} (hi : i < j) (hj : j < n) : (canP fit n i j).set j (fit i j) = canP fit n i (j + 1) := by
  refine List.ext_getElem (by simp [canP_len]) fun k h1 h2 => ?_
  have hk : k < n := by simpa [canP_len] using h2
  rw [List.getElem_set]
  simp only [canP, List.getElem_map, List.getElem_range]
  by_cases e : j = k
  · subst e; rw [if_pos rfl, decide_eq_true (show i < j ∧ j < j + 1 by omega), Bool.true_and]
  · rw [if_neg e]
    congr 1
    exact decide_eq_decide.2 ⟨fun h => ⟨h.1, by omega⟩, fun h => ⟨h.1, by omega⟩⟩
theorem canP_put {fit : Nat → Nat → Bool} {n i j q : Nat} {v : List Value} (hi : i < j) (hj : j < n) (hq : q = j * 1) (hv : v = eB (fit i j)) : put ((canP fit n i j).flatMap eB) q v = (canP fit n i (j + 1)).flatMap eB := by
  subst hq hv
  rw [flat_put eB_len _ _ _ (by rw [canP_len]; exact hj), canP_set hi hj]
theorem canP_zero {fit : Nat → Nat → Bool} {zs : List Value} {n i : Nat} (h : zs = eB false) : zerosL zs n = (canP fit n i (i + 1)).flatMap eB := by
  subst h; rw [zeros_flat eB_len false (by omega) n]
  congr 1
  refine List.ext_getElem (by simp [canP_len]) fun k h1 h2 => ?_
  simp only [canP, List.getElem_map, List.getElem_range, List.getElem_replicate]
  rw [decide_eq_false (by omega), Bool.false_and]
/-- The table of the first rows. -/
def CanK (fit : Nat → Nat → Bool) (n : Nat) (K : List (VX Bool)) : Prop := ∀ i, i < K.length → (K.getD i zX).xs = canR fit n i
theorem CanK.snoc {fit : Nat → Nat → Bool} {n : Nat} {K : List (VX Bool)} (h : CanK fit n K) (A : Option Addr) (c : Nat) : CanK fit n (K ++ [⟨A, c, canR fit n K.length⟩]) := fun i hi => by
  rcases Nat.lt_or_ge i K.length with h1 | h1
  · have := h i h1
    simp only [List.getD] at this ⊢
    rw [List.getElem?_append_left h1]; exact this
  · have e : i = K.length := by simp at hi; omega
    subst e; simp [List.getD]
/-! ### Plans -/
structure VT where
  cost : Int
  breaks : Int
  kept : List Int
def zT0 : VT := ⟨0, 0, []⟩
structure VPl where
  cost : Int
  breaks : Int
  A : Option Addr
  c : Nat
  xs : List Int
def encPl (p : VPl) : List Value := [.int .i64 p.cost, .int .i64 p.breaks, .slice p.A p.xs.length p.c]
theorem encPl_len : ∀ p, (encPl p).length = 3 := fun _ => rfl
def zPl : VPl := ⟨0, 0, none, 0, []⟩
def VPl.t (p : VPl) : VT := ⟨p.cost, p.breaks, p.xs⟩
def rowPl (T : TypeId) (p : VPl) : Rw := ⟨.slice p.A p.xs.length p.c, T, 1, p.xs.length, p.xs.flatMap (eI .i64)⟩
/-- A plan whose list lies on the pile, or is empty. -/
def OkPl (T : TypeId) (P : List Rw) (p : VPl) : Prop := (rowPl T p ∈ P ∧ p.A.isSome = true) ∨ (p.A = none ∧ p.xs = [] ∧ p.c = 0)
theorem OkPl.zero (T : TypeId) (P : List Rw) : OkPl T P zPl := .inr ⟨rfl, rfl, rfl⟩
theorem readsPl {C : Cx} {m : List Ent} {i : Nat} {T : TypeId} {P : List Rw} {p : VPl} (hi : m[i]? = some (.pile P)) (h : OkPl T P p) : Reads C m p.A (p.xs.flatMap (eI .i64)) := by
  rcases h with h | h
  · exact Reads.pile hi (E := T) (sz := 1) h.1
  · have h2 : ∀ w, Holds C.base C.w0 m w → Rd w p.A (p.xs.flatMap (eI .i64)) := fun w _ j u hj => by rw [h.2.1] at hj; simp at hj
    unfold Reads; exact h2
theorem OkPl.none {T : TypeId} {P : List Rw} {p : VPl} (h : OkPl T P p) : p.A = none → p.xs.length = 0 ∧ p.c = 0 := fun e => by
  rcases h with ⟨_, h⟩ | ⟨_, h2, h3⟩
  · rw [e] at h; cases h
  · exact ⟨by rw [h2]; rfl, h3⟩
theorem OkPl.more {T : TypeId} {P : List Rw} {p : VPl} (h : OkPl T P p) (r : Rw) : OkPl T (P ++ [r]) p := h.imp (fun h => ⟨List.mem_append.2 (.inl h.1), h.2⟩) id
theorem row_isSome {C : Cx} {m : List Ent} {i : Nat} {A : Option Addr} {n c : Nat} {E : TypeId} {sz : Nat} {xs : List Value} (hi : m[i]? = some (.row (.slice A n c) E sz n xs)) (hn : 0 < n) : ∀ w, Holds C.base C.w0 m w → A.isSome = true := fun w hw => by
  have h := hw.all _ (List.mem_of_getElem? hi)
  rcases h.2 with ⟨h1, h2⟩ | ⟨g, cap, cur, hv, _⟩
  · omega
  · simp only [Value.slice.injEq] at hv; rw [hv.1]; rfl
def c3 (a b : Int) : Int := if a < b then -1 else if b < a then 1 else 0
def cmpL : List Int → List Int → Int
  | [], [] => 0
  | [], _ :: _ => -1
  | _ :: _, [] => 1
  | a :: s, b :: t => if c3 a b ≠ 0 then c3 a b else cmpL s t
def lessT (p q : VT) : Bool := decide ((if c3 p.cost q.cost ≠ 0 then c3 p.cost q.cost else if c3 p.breaks q.breaks ≠ 0 then c3 p.breaks q.breaks else cmpL p.kept q.kept) < 0)
theorem cmpL_at {s t : List Int} {k : Nat} (h : k < s.length) (h1 : k < t.length) : cmpL (s.drop k) (t.drop k) = if c3 (s.getD k 0) (t.getD k 0) ≠ 0 then c3 (s.getD k 0) (t.getD k 0) else cmpL (s.drop (k + 1)) (t.drop (k + 1)) := by
  rw [drop_cons h, drop_cons h1, cmpL]
theorem cmpL_l {s t : List Int} {k : Nat} (h : k < s.length) (h1 : t.length ≤ k) : cmpL (s.drop k) (t.drop k) = 1 := by
  rw [drop_cons h, List.drop_of_length_le h1]; rfl
theorem cmpL_r {s t : List Int} {k : Nat} (h : s.length ≤ k) (h1 : k < t.length) : cmpL (s.drop k) (t.drop k) = -1 := by
  rw [drop_cons h1, List.drop_of_length_le h]; rfl
theorem cmpL_0 {s t : List Int} {k : Nat} (h : s.length ≤ k) (h1 : t.length ≤ k) : cmpL (s.drop k) (t.drop k) = 0 := by
  rw [List.drop_of_length_le h, List.drop_of_length_le h1]; rfl
def fromT (p : VT) (i : Int) (mis br : Int) : VT := ⟨p.cost + mis * 1 + br * 2, p.breaks + br, i :: p.kept⟩
def candT (fit : Nat → Nat → Bool) (n d : Nat) (L : List VT) (m : Nat) : VT := fromT (L.getD (d - 1 - m) zT0) ((n - 1 - d : Nat) : Int) m (brk (fit (n - 1 - d) (n - d + m)))
def innT (fit : Nat → Nat → Bool) (n : Nat) (w : Int) (d : Nat) (L : List VT) : Nat → VT
  | 0 => fromT zT0 ((n - 1 - d : Nat) : Int) d 0
  | m + 1 => if ((n - d + m : Nat) : Int) = w then innT fit n w d L m else if lessT (candT fit n d L m) (innT fit n w d L m) = true then candT fit n d L m else innT fit n w d L m
def tl (fit : Nat → Nat → Bool) (n : Nat) (w : Int) : Nat → List VT
  | 0 => []
  | d + 1 => tl fit n w d ++ [if ((n - 1 - d : Nat) : Int) = w then zT0 else innT fit n w d (tl fit n w d) d]
theorem tl_len (fit : Nat → Nat → Bool) (n : Nat) (w : Int) : ∀ d, (tl fit n w d).length = d
  | 0 => rfl
  | d + 1 => by rw [tl, List.length_append, tl_len fit n w d]; rfl
theorem tl_at {fit : Nat → Nat → Bool} {n : Nat} {w : Int} {j : Nat} : ∀ {d : Nat}, j < d → (tl fit n w d).getD j zT0 = if ((n - 1 - j : Nat) : Int) = w then zT0 else innT fit n w j (tl fit n w j) j
  | d + 1, h => by
    have hl := tl_len fit n w d
    rw [tl]
    rcases Nat.lt_or_ge j d with h1 | h1
    · have := tl_at (fit := fit) (n := n) (w := w) h1
      simp only [List.getD] at this ⊢
      rw [List.getElem?_append_left (by omega)]; exact this
    · obtain rfl : j = d := by omega
      simp only [List.getD]
      rw [List.getElem?_append_right (by omega)]; simp [hl]
def addT (p : VT) (i : Int) : VT := ⟨p.cost + i * 1, p.breaks, p.kept⟩
/-- What has been found so far, the readings gone through from behind. -/
def btT (fit : Nat → Nat → Bool) (n : Nat) (w : Int) : Nat → Bool × VT
  | 0 => (false, zT0)
  | d + 1 => if ((n - 1 - d : Nat) : Int) = w then btT fit n w d else
    if (btT fit n w d).1 = false ∨ lessT (addT (innT fit n w d (tl fit n w d) d) ((n - 1 - d : Nat) : Int)) (btT fit n w d).2 = true then (true, addT (innT fit n w d (tl fit n w d) d) ((n - 1 - d : Nat) : Int)) else btT fit n w d
structure DX where
  b : Nat
  o : Nat
  K : List (VX Bool)
def orL : List Int → Int
  | [] => 0
  | a :: s => if a ≠ 0 then a else orL s
theorem orL_at {s : List Int} {k : Nat} (h : k < s.length) : orL (s.drop k) = if s.getD k 0 ≠ 0 then s.getD k 0 else orL (s.drop (k + 1)) := by rw [drop_cons h, orL]
theorem orL_0 {s : List Int} {k : Nat} (h : s.length ≤ k) : orL (s.drop k) = 0 := by rw [List.drop_of_length_le h]; rfl
theorem less_or {p q : VT} : decide (orL [c3 p.cost q.cost, c3 p.breaks q.breaks, cmpL p.kept q.kept] < 0) = lessT p q := by
  unfold lessT
  simp only [orL]
  congr 1
  by_cases h : cmpL p.kept q.kept = 0
  · rw [if_neg (show ¬ cmpL p.kept q.kept ≠ 0 by rw [h]; simp), h]
  · rw [if_pos h]
theorem less_pl {p q : VPl} : decide (orL [c3 p.cost q.cost, c3 p.breaks q.breaks, cmpL p.xs q.xs] < 0) = lessT p.t q.t := less_or (p := p.t) (q := q.t)
end Go.W
