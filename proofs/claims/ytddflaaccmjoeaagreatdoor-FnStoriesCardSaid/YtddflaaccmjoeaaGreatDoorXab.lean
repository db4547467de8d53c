/- Several texts, one behind the other. -/
import Derived.Lib.AppendStr
import Derived.Lib.UnsafeStr
import Derived.Lib.Builder
import Derived.Laws.Concat
import Derived.Laws.IdiomStrings
import Derived.Laws.Externs
import Derived.Lib.AppendZeros
import Derived.Shelf.Pu.Lays
import Derived.Shelf.Pu.Lower
import Derived.Lib.Strings
import Derived.Lib.Walk
import Derived.Lib.ConvBytes
import Derived.Lib.ParseIntBMem
import Derived.Lib.Hide
import Derived.Laws.Strings3
import Derived.Laws.Closers25
import Derived.Laws.Closers25b
import Derived.WalkKit
import Derived.BigCall
import Derived.BigGuard
import Derived.Shelf.Pu.ParseUintEmpty
import Derived.Shelf.Pu.ToError
import Derived.Shelf.Pu.ToErrorRange
import Derived.Lib.AtoiErrMem
import Derived.Test.YtddflaaccmjoeaaGreatDoorXaa
/- The best story, in plain numbers. -/
set_option linter.unusedVariables false
set_option linter.unusedSimpArgs false
namespace Go.W
open Go Go.Sx
def nxt (fit : Nat → Nat → Bool) (n : Nat) (a : Int) : Int := if a < 0 then -1 else ((rstL fit n).getD a.toNat zR).next
def ats (fit : Nat → Nat → Bool) (n : Nat) : Nat → Int
  | 0 => (bstV fit n n).next
  | j + 1 => nxt fit n (ats fit n j)
theorem nxt_bd {fit : Nat → Nat → Bool} {n : Nat} {a : Int} (h0 : 0 ≤ a) (h : a < n) : nxt fit n a = -1 ∨ a < nxt fit n a ∧ nxt fit n a < n := by
  unfold nxt; rw [if_neg (by omega)]
  have := rst_bd (fit := fit) (n := n) (i := a.toNat) (by omega)
  omega
theorem nxt_nat (fit : Nat → Nat → Bool) (n a : Nat) : nxt fit n (a : Int) = ((rstL fit n).getD a zR).next := by
  unfold nxt; rw [if_neg (by omega), Int.toNat_natCast]
theorem nxt_neg {fit : Nat → Nat → Bool} {n : Nat} {a : Int} (h : a < 0) : nxt fit n a = -1 := by unfold nxt; rw [if_pos h]
theorem ats_bd (fit : Nat → Nat → Bool) (n : Nat) : ∀ j, -1 ≤ ats fit n j ∧ ats fit n j < n ∧ (0 ≤ ats fit n j → (j : Int) ≤ ats fit n j)
  | 0 => by have := bst_bd (fit := fit) (n := n) n (Nat.le_refl _); rw [ats]; omega
  | j + 1 => by
    have ih := ats_bd fit n j
    rw [ats]
    by_cases h : ats fit n j < 0
    · rw [nxt_neg h]; omega
    · have := nxt_bd (fit := fit) (n := n) (a := ats fit n j) (by omega) ih.2.1
      omega
def muA (n : Nat) (a : Int) : Nat := if a < 0 then 0 else ((n : Int) - a).toNat
theorem mu_lt {n : Nat} {a x : Int} (h0 : 0 ≤ a) (h : a < n) (hx : x = -1 ∨ a < x ∧ x < n) : muA n x < muA n a := by
  unfold muA
  rw [if_neg (by omega : ¬ a < 0)]
  split <;> omega
def kL (fit : Nat → Nat → Bool) (n : Nat) : Nat → List Int
  | 0 => []
  | j + 1 => if ats fit n j < 0 then kL fit n j else kL fit n j ++ [ats fit n j]
def bL (fit : Nat → Nat → Bool) (n : Nat) : Nat → List Int
  | 0 => []
  | j + 1 => if ats fit n j < 0 then bL fit n j else if 0 ≤ ats fit n (j + 1) ∧ fit (ats fit n j).toNat (ats fit n (j + 1)).toNat = false then bL fit n j ++ [ats fit n (j + 1)] else bL fit n j
theorem kL_y {fit : Nat → Nat → Bool} {n j : Nat} (h : ¬ ats fit n j < 0) : kL fit n (j + 1) = kL fit n j ++ [ats fit n j] := by rw [kL, if_neg h]
theorem bL_y {fit : Nat → Nat → Bool} {n j : Nat} (h : ¬ ats fit n j < 0) (h1 : 0 ≤ ats fit n (j + 1)) (h2 : fit (ats fit n j).toNat (ats fit n (j + 1)).toNat = false) : bL fit n (j + 1) = bL fit n j ++ [ats fit n (j + 1)] := by rw [bL, if_neg h, if_pos ⟨h1, h2⟩]
theorem bL_n {fit : Nat → Nat → Bool} {n j : Nat} (h : ¬ ats fit n j < 0) (h1 : ¬ (0 ≤ ats fit n (j + 1) ∧ fit (ats fit n j).toNat (ats fit n (j + 1)).toNat = false)) : bL fit n (j + 1) = bL fit n j := by rw [bL, if_neg h, if_neg h1]
theorem kL_len (fit : Nat → Nat → Bool) (n : Nat) : ∀ j, (kL fit n j).length ≤ j
  | 0 => by simp [kL]
  | j + 1 => by
    have := kL_len fit n j
    rw [kL]; split
    · omega
    · rw [List.length_append]; simp; omega
theorem bL_len (fit : Nat → Nat → Bool) (n : Nat) : ∀ j, (bL fit n j).length ≤ j
  | 0 => by simp [bL]
  | j + 1 => by
    have := bL_len fit n j
    rw [bL]; split
    · omega
    · split
      · rw [List.length_append]; simp; omega
      · omega
theorem ats_stop {fit : Nat → Nat → Bool} {n j : Nat} (h : ats fit n j < 0) : ∀ i, ats fit n (j + i) < 0
  | 0 => h
  | i + 1 => by rw [← Nat.add_assoc, ats, nxt_neg (ats_stop h i)]; omega
theorem kb_stop {fit : Nat → Nat → Bool} {n j : Nat} (h : ats fit n j < 0) : ∀ i, kL fit n (j + i) = kL fit n j ∧ bL fit n (j + i) = bL fit n j
  | 0 => ⟨rfl, rfl⟩
  | i + 1 => by
    have ih := kb_stop h i
    have hs := ats_stop h i
    rw [← Nat.add_assoc, kL, bL, if_pos hs, if_pos hs]; exact ih
/-- Kept readings, breaks. -/
def stK (fit : Nat → Nat → Bool) (n : Nat) : List Int := kL fit n (n + 1)
def stB (fit : Nat → Nat → Bool) (n : Nat) : List Int := bL fit n (n + 1)
theorem st_end {fit : Nat → Nat → Bool} {n j : Nat} (h : ats fit n j < 0) (hj : j ≤ n + 1) : kL fit n j = stK fit n ∧ bL fit n j = stB fit n := by
  have := kb_stop h (n + 1 - j)
  rw [show j + (n + 1 - j) = n + 1 by omega] at this
  exact ⟨this.1.symm, this.2.symm⟩
theorem j_le {fit : Nat → Nat → Bool} {n j : Nat} (h : ¬ ats fit n j < 0) : j + 1 ≤ n := by have := ats_bd fit n j; omega
theorem stK_len (fit : Nat → Nat → Bool) (n : Nat) : (stK fit n).length ≤ n + 1 := kL_len fit n (n + 1)
theorem stB_len (fit : Nat → Nat → Bool) (n : Nat) : (stB fit n).length ≤ n + 1 := bL_len fit n (n + 1)
/-- How far the path has been gone, and where the two lists stand. -/
structure PSt where
  j : Nat
  A1 : Option Addr
  c1 : Nat
  A2 : Option Addr
  c2 : Nat
/-- A story as it stands in memory. -/
structure VSt where
  kept : List Int
  breaks : List Int
  cost : Int
def encY (A1 : Option Addr) (c1 : Nat) (A2 : Option Addr) (c2 : Nat) (y : VSt) : List Value := [.slice A1 y.kept.length c1, .slice A2 y.breaks.length c2, .int .i64 y.cost]
def stV (fit : Nat → Nat → Bool) (n : Nat) : VSt := ⟨stK fit n, stB fit n, (bstV fit n n).cost⟩
end Go.W

/- Lists of lists, the table of what fits, plans, in plain numbers. -/
set_option linter.unusedVariables false
set_option linter.unusedSimpArgs false
namespace Go.W
open Go Go.Sx
/-! ### A list of lists of anything -/
structure VX (α : Type) where
  A : Option Addr
  c : Nat
  xs : List α
variable {α : Type}
def encX (r : VX α) : List Value := [.slice r.A r.xs.length r.c]
theorem encX_len : ∀ r : VX α, (encX r).length = 1 := fun _ => rfl
def zX : VX α := ⟨none, 0, []⟩
def rwX (f : α → List Value) (T : TypeId) (sz : Nat) (r : VX α) : Rw := ⟨.slice r.A r.xs.length r.c, T, sz, r.xs.length, r.xs.flatMap f⟩
theorem readsX {C : Cx} {m : List Ent} {i : Nat} {f : α → List Value} {T : TypeId} {sz : Nat} {K : List (VX α)} (hi : m[i]? = some (.pile (K.map (rwX f T sz)))) {k : Nat} (hk : k < K.length) : Reads C m (K.getD k zX).A ((K.getD k zX).xs.flatMap f) :=
  Reads.pile hi (E := T) (sz := sz) (List.mem_map.2 ⟨_, getD_mem zX hk, rfl⟩)
def outX (K : List (VX α)) (n : Nat) : List (VX α) := K ++ List.replicate (n - K.length) zX
theorem outX_len {K : List (VX α)} {n : Nat} (h : K.length ≤ n) : (outX K n).length = n := by unfold outX; simp; omega
theorem outX_all {K : List (VX α)} {n : Nat} (h : K.length = n) : outX K n = K := by unfold outX; rw [h]; simp
theorem outX_set {K : List (VX α)} {n : Nat} (r : VX α) (h : K.length < n) : (outX K n).set K.length r = outX (K ++ [r]) n := by
  unfold outX
  rw [List.set_append_right _ _ (Nat.le_refl _), Nat.sub_self, List.length_append]
  obtain ⟨j, hj⟩ : ∃ j, n - K.length = j + 1 := ⟨n - K.length - 1, by omega⟩
  rw [hj, List.replicate_succ, List.set_cons_zero, List.append_assoc, show n - (K.length + [r].length) = j by simp; omega]; rfl
theorem outX_put {K : List (VX α)} {n i : Nat} {v : List Value} (r : VX α) (h : K.length < n) (hi : i = K.length * 1) (hv : v = encX r) : put ((outX K n).flatMap encX) i v = (outX (K ++ [r]) n).flatMap encX := by
  subst hi hv
  rw [flat_put encX_len _ _ _ (by rw [outX_len (by omega)]; exact h), outX_set r h]
theorem zoutX {zs : List Value} {n : Nat} (h : zs = encX (zX : VX α)) : zerosL zs n = (outX ([] : List (VX α)) n).flatMap encX := by
  subst h; rw [zeros_flat encX_len zX (by omega) n]; unfold outX; simp
theorem outX_last {K : List (VX α)} {r : VX α} {n : Nat} : (outX (K ++ [r]) n).getD K.length zX = r := by
  unfold outX; simp [List.getD]
theorem cellE {β : Type} {C : Cx} {m : List Ent} {A : Option Addr} {f : β → List Value} {sz : Nat} {xs : List β} {i : Int} (j : Nat) {v : Value} {r : β} (H : Reads C m A (xs.flatMap f)) (hf : ∀ x, (f x).length = sz) (d : β) (k : Nat) (hk : Nat.blt k sz = true) (hi : i = (j : Int)) (hj : j < xs.length) (he : xs.getD j d = r) (hv : (f r)[k]? = some v) : CellO C m (offA A (i.toNat * sz + k)) v := by
  subst he; exact cellJ j H hf d k hk hi hj hv
theorem layX {C : Cx} {m F : List Ent} {f : α → List Value} {T : TypeId} {sz b n : Nat} {l : List α} {K : List (VX α)} (hl : l.length = n) (hp : m.Perm (.row (.slice (some ⟨b, 0, none⟩) n n) T sz n (l.flatMap f) :: .pile (K.map (rwX f T sz)) :: F)) : ∀ w, Holds C.base C.w0 m w → Holds C.base C.w0 (.pile ((K ++ [(⟨some ⟨b, 0, none⟩, n, l⟩ : VX α)]).map (rwX f T sz)) :: F) w := by
  subst hl
  rw [List.map_append]
  exact layEnd hp
/-! ### The table of what fits -/
def canP (fit : Nat → Nat → Bool) (n i j : Nat) : List Bool := (List.range n).map fun k => decide (i < k ∧ k < j) && fit i k
def canR (fit : Nat → Nat → Bool) (n i : Nat) : List Bool := canP fit n i n
theorem canP_len (fit : Nat → Nat → Bool) (n i j : Nat) : (canP fit n i j).length = n := by simp [canP]
theorem canP_at {fit : Nat → Nat → Bool} {n i j k : Nat} (h : k < n) : (canP fit n i j).getD k false = (decide (i < k ∧ k < j) && fit i k) := by simp [canP, List.getD, h]
theorem canR_at {fit : Nat → Nat → Bool} {n i k : Nat} (h : k < n) (hi : i < k) : (canR fit n i).getD k false = fit i k := by
  unfold canR; rw [canP_at h, decide_eq_true ⟨hi, h⟩, Bool.true_and]
theorem canP_set {fit : Nat → Nat → Bool} {n i j : Nat} (hi : i < j) (hj : j < n) : (canP fit n i j).set j (fit i j) = canP fit n i (j + 1) := by
  refine List.ext_getElem (by simp [canP_len]) fun k h1 h2 => ?_
  have hk : k < n := by simpa [canP_len] using h2
  rw [List.getElem_set]
  simp only [canP, List.getElem_map, List.getElem_range]
  by_cases e : j = k
  · subst e; rw [if_pos rfl, decide_eq_true (show i < j ∧ j < j + 1 by omega), Bool.true_and]
  · rw [if_neg e]
    congr 1
    exact decide_eq_decide.2 ⟨fun h => ⟨h.1, by omega⟩, fun h => ⟨h.1, by omega⟩⟩
theorem canP_put {fit : Nat → Nat → Bool} {n i j q : Nat} {v : List Value} (hi : i < j) (hj : j < n) (hq : q = j * 1) (hv : v = eB (fit i j)) : put ((canP fit n i j).flatMap eB) q v = (canP fit n i (j + 1)).flatMap eB := by
  subst hq hv
  rw [flat_put eB_len _ _ _ (by rw [canP_len]; exact hj), canP_set hi hj]
theorem canP_zero {fit : Nat → Nat → Bool} {zs : List Value} {n i : Nat} (h : zs = eB false) : zerosL zs n = (canP fit n i (i + 1)).flatMap eB := by
  subst h; rw [zeros_flat eB_len false (by omega) n]
  congr 1
  refine List.ext_getElem (by simp [canP_len]) fun k h1 h2 => ?_
  simp only [canP, List.getElem_map, List.getElem_range, List.getElem_replicate]
  rw [decide_eq_false (by omega), Bool.false_and]
/-- The table of the first rows. -/
def CanK (fit : Nat → Nat → Bool) (n : Nat) (K : List (VX Bool)) : Prop := ∀ i, i < K.length → (K.getD i zX).xs = canR fit n i
theorem CanK.snoc {fit : Nat → Nat → Bool} {n : Nat} {K : List (VX Bool)} (h : CanK fit n K) (A : Option Addr) (c : Nat) : CanK fit n (K ++ [⟨A, c, canR fit n K.length⟩]) := fun i hi => by
  rcases Nat.lt_or_ge i K.length with h1 | h1
  · have := h i h1
    simp only [List.getD] at this ⊢
    rw [List.getElem?_append_left h1]; exact this
  · have e : i = K.length := by simp at hi; omega
    subst e; simp [List.getD]
/-! ### Plans -/
structure VT where
  cost : Int
  breaks : Int
  kept : List Int
def zT0 : VT := ⟨0, 0, []⟩
structure VPl where
  cost : Int
  breaks : Int
  A : Option Addr
  c : Nat
  xs : List Int
def encPl (p : VPl) : List Value := [.int .i64 p.cost, .int .i64 p.breaks, .slice p.A p.xs.length p.c]
theorem encPl_len : ∀ p, (encPl p).length = 3 := fun _ => rfl
def zPl : VPl := ⟨0, 0, none, 0, []⟩
def VPl.t (p : VPl) : VT := ⟨p.cost, p.breaks, p.xs⟩
def rowPl (T : TypeId) (p : VPl) : Rw := ⟨.slice p.A p.xs.length p.c, T, 1, p.xs.length, p.xs.flatMap (eI .i64)⟩
/-- A plan whose list lies on the pile, or is empty. -/
def OkPl (T : TypeId) (P : List Rw) (p : VPl) : Prop := (rowPl T p ∈ P ∧ p.A.isSome = true) ∨ (p.A = none ∧ p.xs = [] ∧ p.c = 0)
theorem OkPl.zero (T : TypeId) (P : List Rw) : OkPl T P zPl := .inr ⟨rfl, rfl, rfl⟩
theorem readsPl {C : Cx} {m : List Ent} {i : Nat} {T : TypeId} {P : List Rw} {p : VPl} (hi : m[i]? = some (.pile P)) (h : OkPl T P p) : Reads C m p.A (p.xs.flatMap (eI .i64)) := by
  rcases h with h | h
  · exact Reads.pile hi (E := T) (sz := 1) h.1
  · have h2 : ∀ w, Holds C.base C.w0 m w → Rd w p.A (p.xs.flatMap (eI .i64)) := fun w _ j u hj => by rw [h.2.1] at hj; simp at hj
    unfold Reads; exact h2
theorem OkPl.none {T : TypeId} {P : List Rw} {p : VPl} (h : OkPl T P p) : p.A = none → p.xs.length = 0 ∧ p.c = 0 := fun e => by
  rcases h with ⟨_, h⟩ | ⟨_, h2, h3⟩
  · rw [e] at h; cases h
  · exact ⟨by rw [h2]; rfl, h3⟩
theorem OkPl.more {T : TypeId} {P : List Rw} {p : VPl} (h : OkPl T P p) (r : Rw) : OkPl T (P ++ [r]) p := h.imp (fun h => ⟨List.mem_append.2 (.inl h.1), h.2⟩) id
theorem row_isSome {C : Cx} {m : List Ent} {i : Nat} {A : Option Addr} {n c : Nat} {E : TypeId} {sz : Nat} {xs : List Value} (hi : m[i]? = some (.row (.slice A n c) E sz n xs)) (hn : 0 < n) : ∀ w, Holds C.base C.w0 m w → A.isSome = true := fun w hw => by
  have h := hw.all _ (List.mem_of_getElem? hi)
  rcases h.2 with ⟨h1, h2⟩ | ⟨g, cap, cur, hv, _⟩
  · omega
  · simp only [Value.slice.injEq] at hv; rw [hv.1]; rfl
def c3 (a b : Int) : Int := if a < b then -1 else if b < a then 1 else 0
def cmpL : List Int → List Int → Int
  | [], [] => 0
  | [], _ :: _ => -1
  | _ :: _, [] => 1
  | a :: s, b :: t => if c3 a b ≠ 0 then c3 a b else cmpL s t
def lessT (p q : VT) : Bool := decide ((if c3 p.cost q.cost ≠ 0 then c3 p.cost q.cost else if c3 p.breaks q.breaks ≠ 0 then c3 p.breaks q.breaks else cmpL p.kept q.kept) < 0)
theorem cmpL_at {s t : List Int} {k : Nat} (h : k < s.length) (h1 : k < t.length) : cmpL (s.drop k) (t.drop k) = if c3 (s.getD k 0) (t.getD k 0) ≠ 0 then c3 (s.getD k 0) (t.getD k 0) else cmpL (s.drop (k + 1)) (t.drop (k + 1)) := by
  rw [drop_cons h, drop_cons h1, cmpL]
theorem cmpL_l {s t : List Int} {k : Nat} (h : k < s.length) (h1 : t.length ≤ k) : cmpL (s.drop k) (t.drop k) = 1 := by
  rw [drop_cons h, List.drop_of_length_le h1]; rfl
theorem cmpL_r {s t : List Int} {k : Nat} (h : s.length ≤ k) (h1 : k < t.length) : cmpL (s.drop k) (t.drop k) = -1 := by
  rw [drop_cons h1, List.drop_of_length_le h]; rfl
theorem cmpL_0 {s t : List Int} {k : Nat} (h : s.length ≤ k) (h1 : t.length ≤ k) : cmpL (s.drop k) (t.drop k) = 0 := by
  rw [List.drop_of_length_le h, List.drop_of_length_le h1]; rfl
def fromT (p : VT) (i : Int) (mis br : Int) : VT := ⟨p.cost + mis * 1 + br * 2, p.breaks + br, i :: p.kept⟩
def candT (fit : Nat → Nat → Bool) (n d : Nat) (L : List VT) (m : Nat) : VT := fromT (L.getD (d - 1 - m) zT0) ((n - 1 - d : Nat) : Int) m (brk (fit (n - 1 - d) (n - d + m)))
def innT (fit : Nat → Nat → Bool) (n : Nat) (w : Int) (d : Nat) (L : List VT) : Nat → VT
  | 0 => fromT zT0 ((n - 1 - d : Nat) : Int) d 0
  | m + 1 => if ((n - d + m : Nat) : Int) = w then innT fit n w d L m else if lessT (candT fit n d L m) (innT fit n w d L m) = true then candT fit n d L m else innT fit n w d L m
def tl (fit : Nat → Nat → Bool) (n : Nat) (w : Int) : Nat → List VT
  | 0 => []
  | d + 1 => tl fit n w d ++ [if ((n - 1 - d : Nat) : Int) = w then zT0 else innT fit n w d (tl fit n w d) d]
theorem tl_len (fit : Nat → Nat → Bool) (n : Nat) (w : Int) : ∀ d, (tl fit n w d).length = d
  | 0 => rfl
  | d + 1 => by rw [tl, List.length_append, tl_len fit n w d]; rfl
theorem tl_at {fit : Nat → Nat → Bool} {n : Nat} {w : Int} {j : Nat} : ∀ {d : Nat}, j < d → (tl fit n w d).getD j zT0 = if ((n - 1 - j : Nat) : Int) = w then zT0 else innT fit n w j (tl fit n w j) j
  | d + 1, h => by
    have hl := tl_len fit n w d
    rw [tl]
    rcases Nat.lt_or_ge j d with h1 | h1
    · have := tl_at (fit := fit) (n := n) (w := w) h1
      simp only [List.getD] at this ⊢
      rw [List.getElem?_append_left (by omega)]; exact this
    · obtain rfl : j = d := by omega
      simp only [List.getD]
      rw [List.getElem?_append_right (by omega)]; simp [hl]
def addT (p : VT) (i : Int) : VT := ⟨p.cost + i * 1, p.breaks, p.kept⟩
/-- What has been found so far, the readings gone through from behind. -/
def btT (fit : Nat → Nat → Bool) (n : Nat) (w : Int) : Nat → Bool × VT
  | 0 => (false, zT0)
  | d + 1 => if ((n - 1 - d : Nat) : Int) = w then btT fit n w d else
    if (btT fit n w d).1 = false ∨ lessT (addT (innT fit n w d (tl fit n w d) d) ((n - 1 - d : Nat) : Int)) (btT fit n w d).2 = true then (true, addT (innT fit n w d (tl fit n w d) d) ((n - 1 - d : Nat) : Int)) else btT fit n w d
structure DX where
  b : Nat
  o : Nat
  K : List (VX Bool)
def orL : List Int → Int
  | [] => 0
  | a :: s => if a ≠ 0 then a else orL s
theorem orL_at {s : List Int} {k : Nat} (h : k < s.length) : orL (s.drop k) = if s.getD k 0 ≠ 0 then s.getD k 0 else orL (s.drop (k + 1)) := by rw [drop_cons h, orL]
theorem orL_0 {s : List Int} {k : Nat} (h : s.length ≤ k) : orL (s.drop k) = 0 := by rw [List.drop_of_length_le h]; rfl
theorem less_or {p q : VT} : decide (orL [c3 p.cost q.cost, c3 p.breaks q.breaks, cmpL p.kept q.kept] < 0) = lessT p q := by
  unfold lessT
  simp only [orL]
  congr 1
  by_cases h : cmpL p.kept q.kept = 0
  · rw [if_neg (show ¬ cmpL p.kept q.kept ≠ 0 by rw [h]; simp), h]
  · rw [if_pos h]
theorem less_pl {p q : VPl} : decide (orL [c3 p.cost q.cost, c3 p.breaks q.breaks, cmpL p.xs q.xs] < 0) = lessT p.t q.t := less_or (p := p.t) (q := q.t)
end Go.W

/- The program's best plan, in plain numbers: what its loops carry on. -/
set_option linter.unusedVariables false
set_option linter.unusedSimpArgs false
namespace Go.W
open Go Go.Sx
theorem fr_indexAddrE {β : Type} {C : Cx} {env : Env} {m : List Ent} {o : Oper} {A : Option Addr} {f : β → List Value} {sz : Nat} {xs : List β} {n : Nat} {S x y E c k i} (he : xs.length = n) (H : Reads C m A (xs.flatMap f)) (hf : ∀ x, (f x).length = sz) (ho : o.op = .indexAddr S x y) (hx : ev env x = some (.slice A n c)) (hy : ev env y = some (.int k i)) (hS : C.P.underlying S = some (.slice E)) (hs : (C.P.info? E).map (·.size) = some sz) (hp : Nat.blt 0 sz = true) (hi : 0 ≤ i ∧ i < n) : Free C o env m (.pointer (offA A (i.toNat * sz))) := by
  subst he; exact fr_indexAddrF H hf ho hx hy hS hs hp hi
theorem rd_nil (w : World) : Rd w zPl.A (zPl.xs.flatMap (eI .i64)) := fun j u hj => by simp [zPl] at hj
theorem pl_put {Q : List VPl} {i q : Nat} {v : List Value} (r : VPl) (h : i < Q.length) (hq : q = i * 3) (hv : v = encPl r) : put (Q.flatMap encPl) q v = (Q.set i r).flatMap encPl := by
  subst hq hv; exact flat_put encPl_len _ _ _ h
theorem pl_zero {zs : List Value} {n : Nat} (h : zs = encPl zPl) : zerosL zs n = (List.replicate n zPl).flatMap encPl := by
  subst h; exact zeros_flat encPl_len zPl (by omega) n
theorem set_at {Q : List VPl} {i k : Nat} {r : VPl} (h : i < Q.length) : (Q.set i r).getD k zPl = if k = i then r else Q.getD k zPl := by
  simp only [List.getD]
  by_cases e : k = i
  · subst e; rw [if_pos rfl, List.getElem?_set_self h]; rfl
  · rw [if_neg e, List.getElem?_set_ne (fun e' => e e'.symm)]
theorem less_cost {p q : VT} (h : lessT p q = true) : p.cost ≤ q.cost := by
  unfold lessT at h
  have := of_decide_eq_true h
  unfold c3 at this
  by_cases h1 : q.cost < p.cost
  · rw [if_neg (by omega : ¬ p.cost < q.cost), if_pos h1] at this; simp at this
  · omega
theorem less_not {p q : VT} (h : lessT p q = false) : q.cost ≤ p.cost := by
  unfold lessT at h
  have := of_decide_eq_false h
  unfold c3 at this
  by_cases h1 : p.cost < q.cost
  · rw [if_pos h1] at this; simp at this
  · omega
/-- Bounds of a list of plans. -/
def TBd (L : List VT) : Prop := ∀ j, j < L.length → (0 ≤ (L.getD j zT0).cost ∧ (L.getD j zT0).cost ≤ (j : Int)) ∧ (0 ≤ (L.getD j zT0).breaks ∧ (L.getD j zT0).breaks ≤ (j : Int)) ∧ (L.getD j zT0).kept.length ≤ j + 1
theorem inT_bd {fit : Nat → Nat → Bool} {n d : Nat} {wo : Int} {L : List VT} (h : TBd L) (hl : L.length = d) : ∀ m, m ≤ d → (0 ≤ (innT fit n wo d L m).cost ∧ (innT fit n wo d L m).cost ≤ (d : Int)) ∧ (0 ≤ (innT fit n wo d L m).breaks ∧ (innT fit n wo d L m).breaks ≤ (d : Int)) ∧ (innT fit n wo d L m).kept.length ≤ d + 1
  | 0, _ => by
    refine ⟨⟨?_, ?_⟩, ⟨?_, ?_⟩, ?_⟩ <;> simp [innT, fromT, zT0]
  | m + 1, hm => by
    have ih := inT_bd (fit := fit) (n := n) (wo := wo) h hl m (by omega)
    have h1 := h (d - 1 - m) (by omega)
    have h2 := brk_bd (fit (n - 1 - d) (n - d + m))
    rw [innT]
    split
    · exact ih
    · split
      · rename_i hq
        have h3 := less_cost hq
        refine ⟨⟨?_, Int.le_trans h3 ih.1.2⟩, ⟨?_, ?_⟩, ?_⟩
        · simp only [candT, fromT]; omega
        · simp only [candT, fromT]; omega
        · simp only [candT, fromT]; omega
        · simp only [candT, fromT, List.length_cons]; omega
      · exact ih
theorem tl_bd (fit : Nat → Nat → Bool) (n : Nat) (wo : Int) : ∀ d, TBd (tl fit n wo d)
  | 0 => fun j hj => by simp [tl] at hj
  | d + 1 => fun j hj => by
    have ih := tl_bd fit n wo d
    have hl := tl_len fit n wo d
    rw [tl_len] at hj
    rcases Nat.lt_or_ge j d with h1 | h1
    · have e : (tl fit n wo (d + 1)).getD j zT0 = (tl fit n wo d).getD j zT0 := by rw [tl_at hj, tl_at h1]
      rw [e]; exact ih j (by omega)
    · obtain rfl : j = d := by omega
      rw [tl_at (Nat.lt_succ_self j)]
      split
      · simp [zT0]
      · exact inT_bd ih hl j (Nat.le_refl _)
theorem bt_bd (fit : Nat → Nat → Bool) (n : Nat) (wo : Int) : ∀ d, d ≤ n → 0 ≤ (btT fit n wo d).2.cost ∧ (btT fit n wo d).2.cost ≤ (n : Int) ∧ (btT fit n wo d).2.kept.length ≤ n + 1
  | 0, _ => by simp [btT, zT0]
  | d + 1, hd => by
    have ih := bt_bd fit n wo d (by omega)
    have hi := inT_bd (fit := fit) (n := n) (wo := wo) (tl_bd fit n wo d) (tl_len fit n wo d) d (Nat.le_refl _)
    rw [btT]
    split
    · exact ih
    · split
      · simp only [addT]; omega
      · exact ih
/-- What the outer loop carries on. -/
structure BI (fit : Nat → Nat → Bool) (n : Nat) (wo : Int) (T : TypeId) (d : Nat) (Q : List VPl) (P : List Rw) (o : VPl) : Prop where
  dn : d ≤ n
  len : Q.length = n
  zero : ∀ k, k < n - d → Q.getD k zPl = zPl
  done : ∀ k, n - d ≤ k → k < n → (Q.getD k zPl).t = (tl fit n wo d).getD (n - 1 - k) zT0 ∧ OkPl T P (Q.getD k zPl)
  out : o.t = (btT fit n wo d).2
  ok : OkPl T P o
/-- What the inner loop carries on. -/
structure II (fit : Nat → Nat → Bool) (n : Nat) (wo : Int) (T : TypeId) (d m : Nat) (Q : List VPl) (P : List Rw) (o : VPl) : Prop where
  dn : d < n
  mn : m ≤ d
  len : Q.length = n
  zero : ∀ k, k < n - 1 - d → Q.getD k zPl = zPl
  cur : (Q.getD (n - 1 - d) zPl).t = innT fit n wo d (tl fit n wo d) m
  cok : OkPl T P (Q.getD (n - 1 - d) zPl)
  done : ∀ k, n - d ≤ k → k < n → (Q.getD k zPl).t = (tl fit n wo d).getD (n - 1 - k) zT0 ∧ OkPl T P (Q.getD k zPl)
  out : o.t = (btT fit n wo d).2
  ok : OkPl T P o
theorem bi_0 (fit : Nat → Nat → Bool) (n : Nat) (wo : Int) (T : TypeId) : BI fit n wo T 0 (List.replicate n zPl) [] zPl := by
  refine ⟨Nat.zero_le _, by simp, fun k hk => ?_, fun k h1 h2 => by omega, rfl, OkPl.zero _ _⟩
  simp only [List.getD, List.getElem?_replicate]; split <;> rfl
variable {fit : Nat → Nat → Bool} {n d m : Nat} {wo : Int} {T : TypeId} {Q : List VPl} {P : List Rw} {o : VPl}
theorem BI.skip (h : BI fit n wo T d Q P o) (hd : d < n) (hw : ((n - 1 - d : Nat) : Int) = wo) : BI fit n wo T (d + 1) Q P o := by
  refine ⟨by omega, h.len, fun k hk => h.zero k (by omega), fun k h1 h2 => ?_, ?_, h.ok⟩
  · by_cases e : k = n - 1 - d
    · have hz := h.zero k (by omega)
      rw [hz, tl_at (by omega), if_pos (by rw [show n - 1 - (n - 1 - k) = n - 1 - d by omega]; exact hw)]
      exact ⟨rfl, OkPl.zero _ _⟩
    · have := h.done k (by omega) h2
      rw [tl_at (by omega)] at this ⊢; exact this
  · rw [btT, if_pos hw]; exact h.out
theorem BI.start (h : BI fit n wo T d Q P o) (hd : d < n) (r : VPl) (hr : r.t = fromT zT0 ((n - 1 - d : Nat) : Int) d 0) (hs : r.A.isSome = true) : II fit n wo T d 0 (Q.set (n - 1 - d) r) (P ++ [rowPl T r]) o := by
  have hlt : n - 1 - d < Q.length := by rw [h.len]; omega
  refine ⟨hd, Nat.zero_le _, by rw [List.length_set]; exact h.len, fun k hk => ?_, ?_, ?_, fun k h1 h2 => ?_, h.out, h.ok.more _⟩
  · rw [set_at hlt, if_neg (by omega)]; exact h.zero k (by omega)
  · rw [set_at hlt, if_pos rfl]; exact hr
  · rw [set_at hlt, if_pos rfl]; exact .inl ⟨by simp, hs⟩
  · rw [set_at hlt, if_neg (by omega)]
    exact ⟨(h.done k h1 h2).1, (h.done k h1 h2).2.more _⟩
theorem II.skip (h : II fit n wo T d m Q P o) (hm : m < d) (hw : ((n - d + m : Nat) : Int) = wo) : II fit n wo T d (m + 1) Q P o :=
  ⟨h.dn, by omega, h.len, h.zero, by rw [innT, if_pos hw]; exact h.cur, h.cok, h.done, h.out, h.ok⟩
theorem II.cand (h : II fit n wo T d m Q P o) (hm : m < d) : (Q.getD (n - d + m) zPl).t = (tl fit n wo d).getD (d - 1 - m) zT0 ∧ OkPl T P (Q.getD (n - d + m) zPl) := by
  have h1 := h.dn
  have := h.done (n - d + m) (by omega) (by omega)
  rwa [show n - 1 - (n - d + m) = d - 1 - m by omega] at this
theorem II.keep (h : II fit n wo T d m Q P o) (hm : m < d) (hw : ¬ ((n - d + m : Nat) : Int) = wo) (r : VPl) (hr : r.t = candT fit n d (tl fit n wo d) m) (hq : lessT r.t (Q.getD (n - 1 - d) zPl).t = false) : II fit n wo T d (m + 1) Q (P ++ [rowPl T r]) o := by
  refine ⟨h.dn, by omega, h.len, h.zero, ?_, h.cok.more _, fun k h1 h2 => ⟨(h.done k h1 h2).1, (h.done k h1 h2).2.more _⟩, h.out, h.ok.more _⟩
  rw [innT, if_neg hw, if_neg (by rw [← hr, ← h.cur, hq]; decide)]; exact h.cur
theorem II.take (h : II fit n wo T d m Q P o) (hm : m < d) (hw : ¬ ((n - d + m : Nat) : Int) = wo) (r : VPl) (hr : r.t = candT fit n d (tl fit n wo d) m) (hs : r.A.isSome = true) (hq : lessT r.t (Q.getD (n - 1 - d) zPl).t = true) : II fit n wo T d (m + 1) (Q.set (n - 1 - d) r) (P ++ [rowPl T r]) o := by
  have hdn := h.dn
  have hlt : n - 1 - d < Q.length := by rw [h.len]; omega
  refine ⟨h.dn, by omega, by rw [List.length_set]; exact h.len, fun k hk => ?_, ?_, ?_, fun k h1 h2 => ?_, h.out, h.ok.more _⟩
  · rw [set_at hlt, if_neg (by omega)]; exact h.zero k hk
  · rw [set_at hlt, if_pos rfl, innT, if_neg hw, if_pos (by rw [← hr, ← h.cur, hq]), hr]
  · rw [set_at hlt, if_pos rfl]; exact .inl ⟨by simp, hs⟩
  · rw [set_at hlt, if_neg (by omega)]
    exact ⟨(h.done k h1 h2).1, (h.done k h1 h2).2.more _⟩
/-- The plan of the reading at hand, its start counted in. -/
def addP (p : VPl) (i : Int) : VPl := ⟨p.cost + i * 1, p.breaks, p.A, p.c, p.xs⟩
theorem addP_t (p : VPl) (i : Int) : (addP p i).t = addT p.t i := rfl
theorem II.base (h : II fit n wo T d d Q P o) (hw : ¬ ((n - 1 - d : Nat) : Int) = wo) : ∀ k, n - (d + 1) ≤ k → k < n → (Q.getD k zPl).t = (tl fit n wo (d + 1)).getD (n - 1 - k) zT0 ∧ OkPl T P (Q.getD k zPl) := fun k h1 h2 => by
  have hdn := h.dn
  by_cases e : k = n - 1 - d
  · subst e
    rw [show n - 1 - (n - 1 - d) = d by omega, tl_at (Nat.lt_succ_self d), if_neg hw]
    exact ⟨h.cur, h.cok⟩
  · have := h.done k (by omega) h2
    rw [tl_at (by omega)] at this ⊢; exact this
theorem OkPl.add {p : VPl} (h : OkPl T P p) (i : Int) : OkPl T P (addP p i) := h
theorem II.new (h : II fit n wo T d d Q P o) (hw : ¬ ((n - 1 - d : Nat) : Int) = wo) (hq : (btT fit n wo d).1 = false ∨ lessT (addP (Q.getD (n - 1 - d) zPl) ((n - 1 - d : Nat) : Int)).t o.t = true) : BI fit n wo T (d + 1) Q P (addP (Q.getD (n - 1 - d) zPl) ((n - 1 - d : Nat) : Int)) ∧ (btT fit n wo (d + 1)).1 = true := by
  have hdn := h.dn
  have e : btT fit n wo (d + 1) = (true, addT (innT fit n wo d (tl fit n wo d) d) ((n - 1 - d : Nat) : Int)) := by
    rw [btT, if_neg hw, if_pos (by rw [addP_t, h.cur, h.out] at hq; exact hq)]
  refine ⟨⟨by omega, h.len, fun k hk => h.zero k (by omega), h.base hw, ?_, h.cok.add _⟩, by rw [e]⟩
  rw [e, addP_t, h.cur]
theorem II.old (h : II fit n wo T d d Q P o) (hw : ¬ ((n - 1 - d : Nat) : Int) = wo) (hq : (btT fit n wo d).1 = true) (hq2 : lessT (addP (Q.getD (n - 1 - d) zPl) ((n - 1 - d : Nat) : Int)).t o.t = false) : BI fit n wo T (d + 1) Q P o ∧ (btT fit n wo (d + 1)).1 = true := by
  have hdn := h.dn
  have e : btT fit n wo (d + 1) = btT fit n wo d := by
    rw [btT, if_neg hw, if_neg (by rw [addP_t, h.cur, h.out] at hq2; rw [hq, hq2]; simp)]
  refine ⟨⟨by omega, h.len, fun k hk => h.zero k (by omega), h.base hw, by rw [e]; exact h.out, h.ok⟩, by rw [e]; exact hq⟩
structure BSt where
  d : Nat
  Q : List VPl
  P : List Rw
  o : VPl
structure ISt where
  m : Nat
  Q : List VPl
  P : List Rw
theorem II.cbd (h : II fit n wo T d m Q P o) (hm : m < d) : (0 ≤ (Q.getD (n - d + m) zPl).cost ∧ (Q.getD (n - d + m) zPl).cost ≤ (d : Int)) ∧ (0 ≤ (Q.getD (n - d + m) zPl).breaks ∧ (Q.getD (n - d + m) zPl).breaks ≤ (d : Int)) ∧ (Q.getD (n - d + m) zPl).xs.length ≤ d := by
  have h1 := (h.cand hm).1
  have h2 := tl_bd fit n wo d (d - 1 - m) (by rw [tl_len]; omega)
  rw [← h1] at h2
  have h3 : (0 ≤ (Q.getD (n - d + m) zPl).cost ∧ (Q.getD (n - d + m) zPl).cost ≤ ((d - 1 - m : Nat) : Int)) ∧ (0 ≤ (Q.getD (n - d + m) zPl).breaks ∧ (Q.getD (n - d + m) zPl).breaks ≤ ((d - 1 - m : Nat) : Int)) ∧ (Q.getD (n - d + m) zPl).xs.length ≤ d - 1 - m + 1 := h2
  omega
theorem II.ibd (h : II fit n wo T d m Q P o) : (0 ≤ (Q.getD (n - 1 - d) zPl).cost ∧ (Q.getD (n - 1 - d) zPl).cost ≤ (d : Int)) ∧ (0 ≤ (Q.getD (n - 1 - d) zPl).breaks ∧ (Q.getD (n - 1 - d) zPl).breaks ≤ (d : Int)) ∧ (Q.getD (n - 1 - d) zPl).xs.length ≤ d + 1 := by
  have h2 := inT_bd (fit := fit) (n := n) (wo := wo) (tl_bd fit n wo d) (tl_len fit n wo d) m h.mn
  rw [← h.cur] at h2; exact h2
theorem II.obd (h : II fit n wo T d m Q P o) : o.xs.length ≤ n + 1 := by
  have h2 := bt_bd fit n wo d (by have := h.dn; omega)
  rw [← h.out] at h2; exact h2.2.2
theorem canK_bool {K : List (VX Bool)} (h : CanK fit n K) {i j : Nat} (hi : i < K.length) (hij : i < j) (hj : j < n) : (K.getD i zX).xs.length = n ∧ (K.getD i zX).xs.getD j false = fit i j := by
  rw [h i hi]; exact ⟨canP_len _ _ _ _, canR_at hj hij⟩
end Go.W

/- Sure misreads, in plain numbers. -/
set_option linter.unusedVariables false
set_option linter.unusedSimpArgs false
namespace Go.W
open Go Go.Sx
variable {fit : Nat → Nat → Bool} {n i k q : Nat} {v : List Value}
/-- The list of what comes ahead, the first i of them told. -/
def flO (fit : Nat → Nat → Bool) (n i : Nat) : List Int := fl fit i ++ List.replicate (n - i) 0
/-- And the next one being x so far. -/
def flR (fit : Nat → Nat → Bool) (n i : Nat) (x : Int) : List Int := fl fit i ++ x :: List.replicate (n - i - 1) 0
theorem flO_len (h : i ≤ n) : (flO fit n i).length = n := by unfold flO; simp [fl_len]; omega
theorem flR_len {x : Int} (h : i < n) : (flR fit n i x).length = n := by unfold flR; simp [fl_len]; omega
theorem flO_zero {zs : List Value} (h : zs = eI .i64 0) : zerosL zs n = (flO fit n 0).flatMap (eI .i64) := by
  subst h; rw [zeros_flat (eI_len .i64) 0 (by omega) n]; unfold flO; simp [fl]
theorem flO_put {x : Int} (h : i < n) (hq : q = i * 1) (hv : v = eI .i64 x) : put ((flO fit n i).flatMap (eI .i64)) q v = (flR fit n i x).flatMap (eI .i64) := by
  subst hq hv
  rw [flat_put (eI_len .i64) _ _ _ (by rw [flO_len (by omega)]; exact h)]
  congr 1
  unfold flO flR
  have hl := fl_len fit i
  obtain ⟨j, hj⟩ : ∃ j, n - i = j + 1 := ⟨n - i - 1, by omega⟩
  rw [List.set_append_right _ _ (by omega), hl, Nat.sub_self, hj, List.replicate_succ, List.set_cons_zero, Nat.add_sub_cancel]
theorem flR_at {x : Int} : (flR fit n i x).getD i 0 = x := by
  unfold flR; have hl := fl_len fit i
  simp only [List.getD]; rw [List.getElem?_append_right (by omega), hl, Nat.sub_self]; rfl
theorem flR_lo {x : Int} (h : k < i) : (flR fit n i x).getD k 0 = (fl fit i).getD k 0 := by
  unfold flR; have hl := fl_len fit i
  simp only [List.getD]; rw [List.getElem?_append_left (by omega)]
theorem flR_put {x y : Int} (h : i < n) (hq : q = i * 1) (hv : v = eI .i64 y) : put ((flR fit n i x).flatMap (eI .i64)) q v = (flR fit n i y).flatMap (eI .i64) := by
  subst hq hv
  rw [flat_put (eI_len .i64) _ _ _ (by rw [flR_len h]; exact h)]
  congr 1
  unfold flR
  have hl := fl_len fit i
  rw [List.set_append_right _ _ (by omega), hl, Nat.sub_self, List.set_cons_zero]
theorem flR_fin (h : i < n) : flR fit n i (finV fit i (fl fit i) i) = flO fit n (i + 1) := by
  unfold flR flO; rw [fl, List.append_assoc, show n - (i + 1) = n - i - 1 by omega]; rfl
/-- The least cost from each reading on, as the program's second list has it. -/
def bhO (fit : Nat → Nat → Bool) (n d : Nat) : List Int := (outR fit n d).map (·.cost)
def bhR (fit : Nat → Nat → Bool) (n d : Nat) (x : Int) : List Int := (bhO fit n d).set (n - 1 - d) x
theorem bhO_len {d : Nat} (h : d ≤ n) : (bhO fit n d).length = n := by unfold bhO; rw [List.length_map, outR_len h]
theorem bhR_len {d : Nat} {x : Int} (h : d ≤ n) : (bhR fit n d x).length = n := by unfold bhR; rw [List.length_set, bhO_len h]
theorem map_cost (L : List VR) (k : Nat) : (L.map (·.cost)).getD k 0 = (L.getD k zR).cost := by
  simp only [List.getD, List.getElem?_map]; cases L[k]? <;> rfl
theorem bhO_zero {zs : List Value} (h : zs = eI .i64 0) : zerosL zs n = (bhO fit n 0).flatMap (eI .i64) := by
  subst h; rw [zeros_flat (eI_len .i64) 0 (by omega) n]; unfold bhO outR; simp [rl, zR]
theorem bhO_put {d : Nat} {x : Int} (h : d < n) (hq : q = (n - 1 - d) * 1) (hv : v = eI .i64 x) : put ((bhO fit n d).flatMap (eI .i64)) q v = (bhR fit n d x).flatMap (eI .i64) := by
  subst hq hv
  rw [flat_put (eI_len .i64) _ _ _ (by rw [bhO_len (by omega)]; omega)]; rfl
theorem bhR_put {d : Nat} {x y : Int} (h : d < n) (hq : q = (n - 1 - d) * 1) (hv : v = eI .i64 y) : put ((bhR fit n d x).flatMap (eI .i64)) q v = (bhR fit n d y).flatMap (eI .i64) := by
  subst hq hv
  rw [flat_put (eI_len .i64) _ _ _ (by rw [bhR_len (by omega)]; omega)]; unfold bhR; rw [List.set_set]
theorem bhR_at {d : Nat} {x : Int} (h : d < n) : (bhR fit n d x).getD (n - 1 - d) 0 = x := by
  unfold bhR; simp only [List.getD]; rw [List.getElem?_set_self (by rw [bhO_len (by omega)]; omega)]; rfl
theorem bhR_hi {d m : Nat} {x : Int} (hd : d < n) (h : m < d) : (bhR fit n d x).getD (n - d + m) 0 = ((rl fit n d).getD (d - 1 - m) zR).cost := by
  unfold bhR
  have e : ((bhO fit n d).set (n - 1 - d) x).getD (n - d + m) 0 = (bhO fit n d).getD (n - d + m) 0 := by
    simp only [List.getD]; rw [List.getElem?_set_ne (by omega)]
  rw [e]; unfold bhO
  rw [map_cost, outR_at (by omega) (by omega) (by omega), show n - 1 - (n - d + m) = d - 1 - m by omega]
theorem bhR_fin {d : Nat} (h : d < n) : bhR fit n d (inn fit n d (rl fit n d) d).cost = bhO fit n (d + 1) := by
  unfold bhR bhO
  rw [← outR_set h, List.map_set]
theorem bhO_hi {d k : Nat} (hd : d ≤ n) (h1 : n - d ≤ k) (h2 : k < n) : (bhO fit n d).getD k 0 = ((rstL fit n).getD k zR).cost := by
  unfold bhO rstL
  rw [map_cost, outR_at hd h1 h2, outR_at (Nat.le_refl _) (by omega) h2]
  congr 1
  have key : ∀ e, d + e ≤ n → (rl fit n (d + e)).getD (n - 1 - k) zR = (rl fit n d).getD (n - 1 - k) zR := by
    intro e
    induction e with
    | zero => intro _; rfl
    | succ e ih =>
      intro he
      rw [← ih (by omega), ← Nat.add_assoc, rl, snocR_at (by rw [rl_len]; omega)]
  have := key (n - d) (by omega)
  rw [show d + (n - d) = n by omega] at this
  exact this.symm
/-! the least cost of all, both ways -/
theorem inT_cost {d m : Nat} {L : List VT} : (innT fit n (-1) d L (m + 1)).cost = min (innT fit n (-1) d L m).cost (candT fit n d L m).cost := by
  rw [innT, if_neg (by omega)]
  by_cases h : lessT (candT fit n d L m) (innT fit n (-1) d L m) = true
  · rw [if_pos h]; have := less_cost h; omega
  · rw [if_neg h]; have := less_not (by simpa using h); omega
theorem cost_same : ∀ d, d ≤ n → ∀ j, j < d → ((tl fit n (-1) d).getD j zT0).cost = ((rl fit n d).getD j zR).cost
  | d + 1, hd, j, hj => by
    have ih := cost_same d (by omega)
    have hl := rl_len fit n d
    rcases Nat.lt_or_ge j d with h1 | h1
    · have e : (tl fit n (-1) (d + 1)).getD j zT0 = (tl fit n (-1) d).getD j zT0 := by rw [tl_at hj, tl_at h1]
      rw [e, rl, snocR_at (by omega)]; exact ih j h1
    · obtain rfl : j = d := by omega
      have e2 : (rl fit n (j + 1)).getD j zR = inn fit n j (rl fit n j) j := by
        rw [rl]; have := snocR_last (L := rl fit n j) (r := inn fit n j (rl fit n j) j); rwa [hl] at this
      rw [tl_at (Nat.lt_succ_self j), if_neg (by omega), e2]
      have key : ∀ m, m ≤ j → (innT fit n (-1) j (tl fit n (-1) j) m).cost = (inn fit n j (rl fit n j) m).cost := by
        intro m
        induction m with
        | zero => intro _; simp [innT, inn, fromT, zT0]
        | succ m ihm =>
          intro hm
          rw [inT_cost, inn_cost, ihm (by omega)]
          have h2 := ih (j - 1 - m) (by omega)
          simp only [candT, fromT, candC, h2]; omega
      exact key j (Nat.le_refl _)
/-- The cost of a story that starts at a reading. -/
def totC_ (fit : Nat → Nat → Bool) (n i : Nat) : Int := (i : Int) + ((rstL fit n).getD i zR).cost
theorem bst_min : ∀ m, m ≤ n → 0 < m → (∀ i, i < m → (bstV fit n m).cost ≤ totC_ fit n i) ∧ (∃ i, i < m ∧ (bstV fit n m).cost = totC_ fit n i) ∧ 0 ≤ (bstV fit n m).next
  | m + 1, hm, _ => by
    by_cases hq : (bstV fit n m).next < 0 ∨ (m : Int) + ((rstL fit n).getD m zR).cost < (bstV fit n m).cost ∨ (m : Int) + ((rstL fit n).getD m zR).cost = (bstV fit n m).cost ∧ ((rstL fit n).getD m zR).breaks < (bstV fit n m).breaks
    · rw [bst_y hq]
      refine ⟨fun i hi => ?_, ⟨m, Nat.lt_succ_self m, rfl⟩, by dsimp only; omega⟩
      rcases Nat.lt_or_ge i m with h1 | h1
      · have ih := bst_min m (by omega) (by omega)
        have := ih.1 i h1
        unfold totC_ at this ⊢
        dsimp only; omega
      · rw [show i = m by omega]; exact Int.le_refl _
    · rw [bst_n hq]
      have h0 : 0 < m := by
        rcases Nat.eq_zero_or_pos m with h | h
        · subst h; exact absurd (.inl (by show (-1 : Int) < 0; decide)) hq
        · exact h
      have ih := bst_min m (by omega) h0
      obtain ⟨i0, hi0, e0⟩ := ih.2.1
      refine ⟨fun i hi => ?_, ⟨i0, by omega, e0⟩, ih.2.2⟩
      rcases Nat.lt_or_ge i m with h1 | h1
      · exact ih.1 i h1
      · rw [show i = m by omega]; unfold totC_; omega
theorem inT_rst {d : Nat} (hd : d < n) : (innT fit n (-1) d (tl fit n (-1) d) d).cost = ((rstL fit n).getD (n - 1 - d) zR).cost := by
  have h1 := cost_same (fit := fit) (n := n) n (Nat.le_refl _) d hd
  rw [tl_at hd, if_neg (by omega)] at h1
  unfold rstL
  rw [h1, outR_at (Nat.le_refl _) (by omega) (by omega), show n - 1 - (n - 1 - d) = d by omega]
theorem bt_min : ∀ d, d ≤ n → 0 < d → (∀ i, n - d ≤ i → i < n → (btT fit n (-1) d).2.cost ≤ totC_ fit n i) ∧ (∃ i, n - d ≤ i ∧ i < n ∧ (btT fit n (-1) d).2.cost = totC_ fit n i) ∧ (btT fit n (-1) d).1 = true
  | d + 1, hd, _ => by
    have hr := inT_rst (fit := fit) (n := n) (d := d) (by omega)
    have hc : (addT (innT fit n (-1) d (tl fit n (-1) d) d) ((n - 1 - d : Nat) : Int)).cost = totC_ fit n (n - 1 - d) := by unfold totC_ addT; dsimp only; rw [hr]; omega
    rw [btT, if_neg (by omega)]
    by_cases hq : (btT fit n (-1) d).1 = false ∨ lessT (addT (innT fit n (-1) d (tl fit n (-1) d) d) ((n - 1 - d : Nat) : Int)) (btT fit n (-1) d).2 = true
    · rw [if_pos hq]
      refine ⟨fun i h1 h2 => ?_, ⟨n - 1 - d, by omega, by omega, hc⟩, rfl⟩
      show (addT _ _).cost ≤ _
      rw [hc]
      by_cases e : i = n - 1 - d
      · rw [e]; exact Int.le_refl _
      · have ih := bt_min d (by omega) (by omega)
        have h3 := ih.1 i (by omega) h2
        rcases hq with hq | hq
        · rw [ih.2.2] at hq; cases hq
        · have := less_cost hq; rw [hc] at this; omega
    · rw [if_neg hq]
      have h0 : 0 < d := by
        rcases Nat.eq_zero_or_pos d with h | h
        · subst h; exact absurd (.inl rfl) hq
        · exact h
      have ih := bt_min d (by omega) h0
      obtain ⟨i0, h1, h2, e0⟩ := ih.2.1
      refine ⟨fun i h3 h4 => ?_, ⟨i0, by omega, h2, e0⟩, ih.2.2⟩
      by_cases e : i = n - 1 - d
      · have h5 : lessT (addT (innT fit n (-1) d (tl fit n (-1) d) d) ((n - 1 - d : Nat) : Int)) (btT fit n (-1) d).2 = false := by
          cases h6 : lessT (addT (innT fit n (-1) d (tl fit n (-1) d) d) ((n - 1 - d : Nat) : Int)) (btT fit n (-1) d).2 with
          | false => rfl
          | true => exact absurd (.inr h6) hq
        have := less_not h5; rw [hc] at this; rw [e]; exact this
      · exact ih.1 i (by omega) h4
theorem pkR2 {e : Ent} {v : Value} {E s n : Nat} {xs ys : List Value} {r : List Ent} (h : xs = ys) : some (e :: Ent.row v E s n xs :: r) = some (e :: Ent.row v E s n ys :: r) := by rw [h]
theorem best_cost : (btT fit n (-1) n).2.cost = (bstV fit n n).cost := by
  rcases Nat.eq_zero_or_pos n with h | h
  · subst h; rfl
  · have h1 := bst_min (fit := fit) (n := n) n (Nat.le_refl _) h
    have h2 := bt_min (fit := fit) (n := n) n (Nat.le_refl _) h
    obtain ⟨i, hi, e1⟩ := h1.2.1
    obtain ⟨j, _, hj, e2⟩ := h2.2.1
    have h3 := h1.1 j hj
    have h4 := h2.1 i (by omega) hi
    omega
theorem fin_step {i k : Nat} (h : k < i) : min (finV fit i (fl fit i) k) ((fl fit i).getD k 0 + (((i : Int) - k - 1) + 2 * brk (fit k i))) = finV fit i (fl fit i) (k + 1) := by
  rw [finV]; congr 3; omega
end Go.W

/- Two things made in either order; what the program's counts come to. -/
set_option linter.unusedVariables false
set_option linter.unusedSimpArgs false
namespace Go.Sx
open Go Go.RowKit
variable {C : Cx} {env : Env} {m : List Ent} {l : List Oper} {K : Env → List Ent → Prop} {S : List Ent} {fuel i j di dj : Nat} {done : List Nat} {oi oj o : Oper}
theorem run_equal_ptr {P : Program} {w : World} {T E : TypeId} {A : Option Addr} (hT : P.underlying T = some (.pointer E)) : (Op.equal T (.pointer A) (.pointer none)).run P w = .ok A.isNone w := by
  unfold Op.equal Op.maxDepth
  rw [show (10000 : Nat) = 9999 + 1 from rfl]
  unfold Op.equalIn
  rw [Sem.run_bind, run_underlying hT]
  cases A <;> rfl
theorem fr_eql_ptr {T x y T' E A} (ho : o.op = .binOp .eql T x y T') (hx : ev env x = some (.pointer A)) (hy : ev env y = some (.pointer none)) (hT : C.P.underlying T = some (.pointer E)) : Free C o env m (.bool A.isNone) := by
  unfold Free
  intro a w hr _
  have h : (binOp .eql T (.pointer A) (.pointer none)).run C.P w = .ok (.bool A.isNone) w := by
    have hq := run_equal_ptr (P := C.P) (w := w) (A := A) hT
    unfold binOp
    simp only [Sem.run_bind, hq, Result.andThen_ok, Sem.run_pure]
  have hg : (eqGuard .eql T x y (.pointer A) (.pointer none)).run C.P w = .ok () w := by unfold eqGuard; rfl
  simp only [execOp, ho, hr.ev hx, hr.ev hy, Sem.run_bind, hg, Result.andThen_ok, h]; rfl
theorem fr_eql_ptr_n {T x y T' E} (ho : o.op = .binOp .eql T x y T') (hx : ev env x = some (.pointer none)) (hy : ev env y = some (.pointer none)) (hT : C.P.underlying T = some (.pointer E)) : Free C o env m (.bool true) := fr_eql_ptr ho hx hy hT
theorem fr_eql_ptr_s {T x y T' E a} (ho : o.op = .binOp .eql T x y T') (hx : ev env x = some (.pointer (some a))) (hy : ev env y = some (.pointer none)) (hT : C.P.underlying T = some (.pointer E)) : Free C o env m (.bool false) := fr_eql_ptr ho hx hy hT
end Go.Sx
namespace Go.W
open Go Go.Sx
variable {fit : Nat → Nat → Bool} {n i : Nat}
theorem flO_at {j : Nat} (h : i < j) : (flO fit n j).getD i 0 = finV fit i (fl fit i) i := by
  rw [← fl_at h]; unfold flO
  simp only [List.getD]; rw [List.getElem?_append_left (by rw [fl_len]; exact h)]
theorem inn_min {d m : Nat} {c : Int} (h : c = candC fit n d (rl fit n d) m) : min (inn fit n d (rl fit n d) m).cost c = (inn fit n d (rl fit n d) (m + 1)).cost := by rw [inn_cost, h]
/-- What the best story of those that keep a reading costs. -/
def withV (fit : Nat → Nat → Bool) (n i : Nat) : Int := finV fit i (fl fit i) i + ((rstL fit n).getD i zR).cost
end Go.W

/- The best story, in plain numbers: the program's plan is the reference's story. -/
set_option linter.unusedVariables false
set_option linter.unusedSimpArgs false
namespace Go.W
open Go Go.Sx
theorem rl_at2 {fit : Nat → Nat → Bool} {n j : Nat} : ∀ {d : Nat}, j < d → (rl fit n d).getD j zR = inn fit n j (rl fit n j) j
  | d + 1, h => by
    have hl := rl_len fit n d
    rw [rl]
    rcases Nat.lt_or_ge j d with h1 | h1
    · rw [snocR_at (by omega)]; exact rl_at2 h1
    · obtain rfl : j = d := by omega
      have := snocR_last (L := rl fit n j) (r := inn fit n j (rl fit n j) j); rwa [hl] at this
variable {fit : Nat → Nat → Bool} {n : Nat}
def eT (fit : Nat → Nat → Bool) (n j : Nat) : VT := innT fit n (-1) j (tl fit n (-1) j) j
def eR (fit : Nat → Nat → Bool) (n j : Nat) : VR := inn fit n j (rl fit n j) j
def tailK (fit : Nat → Nat → Bool) (n : Nat) (a : Int) : List Int := if a < 0 then [] else (eT fit n (n - 1 - a.toNat)).kept
theorem tlE {d j : Nat} (h : j < d) : (tl fit n (-1) d).getD j zT0 = eT fit n j := by rw [tl_at h, if_neg (by omega)]; rfl
theorem rlE {d j : Nat} (h : j < d) : (rl fit n d).getD j zR = eR fit n j := by rw [rl_at2 h]; rfl
theorem lex_lt (a b c : Int) : ((if a ≠ 0 then a else if b ≠ 0 then b else c) < 0) ↔ (a < 0 ∨ a = 0 ∧ (b < 0 ∨ b = 0 ∧ c < 0)) := by
  by_cases h : a = 0
  · rw [if_neg (by simp [h])]
    by_cases h2 : b = 0
    · rw [if_neg (by simp [h2])]; omega
    · rw [if_pos h2]; omega
  · rw [if_pos h]; omega
theorem c3_neg (a b : Int) : c3 a b < 0 ↔ a < b := by unfold c3; split <;> (try split) <;> omega
theorem c3_zero (a b : Int) : c3 a b = 0 ↔ a = b := by unfold c3; split <;> (try split) <;> omega
theorem less_dec {p q : VT} (h : p.cost = q.cost → p.breaks = q.breaks → ¬ cmpL p.kept q.kept < 0) : lessT p q = true ↔ (p.cost < q.cost ∨ p.cost = q.cost ∧ p.breaks < q.breaks) := by
  unfold lessT
  rw [decide_eq_true_iff, lex_lt, c3_neg, c3_zero, c3_neg, c3_zero]
  constructor
  · rintro (h1 | ⟨h1, h2 | ⟨h2, h3⟩⟩)
    · exact .inl h1
    · exact .inr ⟨h1, h2⟩
    · exact absurd h3 (h h1 h2)
  · rintro (h1 | ⟨h1, h2⟩)
    · exact .inl h1
    · exact .inr ⟨h1, .inl h2⟩
theorem less_dec' {p q : VT} (h : p.cost = q.cost → p.breaks = q.breaks → cmpL p.kept q.kept < 0) : lessT p q = true ↔ (p.cost < q.cost ∨ p.cost = q.cost ∧ p.breaks ≤ q.breaks) := by
  unfold lessT
  rw [decide_eq_true_iff, lex_lt, c3_neg, c3_zero, c3_neg, c3_zero]
  constructor
  · rintro (h1 | ⟨h1, h2 | ⟨h2, h3⟩⟩)
    · exact .inl h1
    · exact .inr ⟨h1, Int.le_of_lt h2⟩
    · exact .inr ⟨h1, Int.le_of_eq h2⟩
  · rintro (h1 | ⟨h1, h2⟩)
    · exact .inl h1
    · rcases Int.lt_or_eq_of_le h2 with h3 | h3
      · exact .inr ⟨h1, .inl h3⟩
      · exact .inr ⟨h1, .inr ⟨h3, h h1 h3⟩⟩
theorem inn_next {d : Nat} {L : List VR} (hd : d < n) : ∀ m, m ≤ d → (inn fit n d L m).next = -1 ∨ ((n - 1 - d : Nat) : Int) < (inn fit n d L m).next ∧ (inn fit n d L m).next < ((n - d + m : Nat) : Int)
  | 0, _ => .inl rfl
  | m + 1, hm => by
    have ih := inn_next (L := L) hd m (by omega)
    rw [inn]; split
    · dsimp only; omega
    · omega
theorem two_same (j : Nat) : j < n → (eT fit n j).cost = (eR fit n j).cost ∧ (eT fit n j).breaks = (eR fit n j).breaks ∧ (eT fit n j).kept = ((n - 1 - j : Nat) : Int) :: tailK fit n (eR fit n j).next := by
  induction j using Nat.strongRecOn with
  | ind j ih =>
    intro hj
    have key : ∀ m, m ≤ j → (innT fit n (-1) j (tl fit n (-1) j) m).cost = (inn fit n j (rl fit n j) m).cost ∧ (innT fit n (-1) j (tl fit n (-1) j) m).breaks = (inn fit n j (rl fit n j) m).breaks ∧ (innT fit n (-1) j (tl fit n (-1) j) m).kept = ((n - 1 - j : Nat) : Int) :: tailK fit n (inn fit n j (rl fit n j) m).next := by
      intro m
      induction m with
      | zero => intro _; simp [innT, inn, fromT, zT0, tailK]
      | succ m ihm =>
        intro hm
        obtain ⟨i1, i2, i3⟩ := ihm (by omega)
        obtain ⟨k1, k2, k3⟩ := ih (j - 1 - m) (by omega) (by omega)
        have hnx := inn_next (fit := fit) (L := rl fit n j) hj m (by omega)
        have c1 : (candT fit n j (tl fit n (-1) j) m).cost = candC fit n j (rl fit n j) m := by
          simp only [candT, fromT, candC]; rw [tlE (by omega), rlE (by omega), k1]; omega
        have c2 : (candT fit n j (tl fit n (-1) j) m).breaks = candB fit n j (rl fit n j) m := by
          simp only [candT, fromT, candB]; rw [tlE (by omega), rlE (by omega), k2]; omega
        have c4 : (candT fit n j (tl fit n (-1) j) m).kept = ((n - 1 - j : Nat) : Int) :: (eT fit n (j - 1 - m)).kept := by
          simp only [candT, fromT]; rw [tlE (by omega)]
        have hl : lessT (candT fit n j (tl fit n (-1) j) m) (innT fit n (-1) j (tl fit n (-1) j) m) = true ↔ (candC fit n j (rl fit n j) m < (inn fit n j (rl fit n j) m).cost ∨ candC fit n j (rl fit n j) m = (inn fit n j (rl fit n j) m).cost ∧ candB fit n j (rl fit n j) m < (inn fit n j (rl fit n j) m).breaks) := by
          rw [less_dec, c1, c2, i1, i2]
          intro _ _
          rw [c4, i3, k3]
          have hz : ¬ c3 ((n - 1 - j : Nat) : Int) ((n - 1 - j : Nat) : Int) ≠ 0 := by unfold c3; rw [if_neg (by omega), if_neg (by omega)]; simp
          rw [cmpL, if_neg hz]
          by_cases hn2 : (inn fit n j (rl fit n j) m).next < 0
          · rw [show tailK fit n (inn fit n j (rl fit n j) m).next = [] from if_pos hn2, cmpL]; omega
          · rw [show tailK fit n (inn fit n j (rl fit n j) m).next = (eT fit n (n - 1 - (inn fit n j (rl fit n j) m).next.toNat)).kept from if_neg hn2]
            obtain ⟨q1, q2, q3⟩ := ih (n - 1 - (inn fit n j (rl fit n j) m).next.toNat) (by omega) (by omega)
            rw [q3, cmpL]
            have hc : c3 ((n - 1 - (j - 1 - m) : Nat) : Int) ((n - 1 - (n - 1 - (inn fit n j (rl fit n j) m).next.toNat) : Nat) : Int) = 1 := by unfold c3; rw [if_neg (by omega), if_pos (by omega)]
            rw [hc]; simp
        rw [innT, if_neg (by omega)]
        by_cases hq : lessT (candT fit n j (tl fit n (-1) j) m) (innT fit n (-1) j (tl fit n (-1) j) m) = true
        · rw [if_pos hq, inn_y (hl.1 hq)]
          refine ⟨c1, c2, ?_⟩
          rw [c4]; unfold tailK; dsimp only
          rw [if_neg (by omega), show n - 1 - ((n - j + m : Nat) : Int).toNat = j - 1 - m by omega]
        · rw [if_neg hq, inn_n (fun h => hq (hl.2 h))]
          exact ⟨i1, i2, i3⟩
    exact key j (Nat.le_refl _)
def tC (fit : Nat → Nat → Bool) (n i : Nat) : Int := (i : Int) + (eR fit n (n - 1 - i)).cost
def tB_ (fit : Nat → Nat → Bool) (n i : Nat) : Int := (eR fit n (n - 1 - i)).breaks
theorem rstE {i : Nat} (h : i < n) : (rstL fit n).getD i zR = eR fit n (n - 1 - i) := by
  unfold rstL; rw [outR_at (Nat.le_refl _) (by omega) h, rlE (by omega)]
theorem bst_char : ∀ m, m ≤ n → 0 < m → ∃ i0, i0 < m ∧ bstV fit n m = ⟨tC fit n i0, tB_ fit n i0, (i0 : Int)⟩ ∧ (∀ i, i < m → tC fit n i0 < tC fit n i ∨ tC fit n i0 = tC fit n i ∧ tB_ fit n i0 ≤ tB_ fit n i) ∧ (∀ i, i < i0 → tC fit n i0 < tC fit n i ∨ tC fit n i0 = tC fit n i ∧ tB_ fit n i0 < tB_ fit n i)
  | m + 1, hm, _ => by
    have hr := rstE (fit := fit) (n := n) (i := m) (by omega)
    rcases Nat.eq_zero_or_pos m with h0 | h0
    · subst h0
      refine ⟨0, by omega, ?_, fun i hi => ?_, fun i hi => by omega⟩
      · rw [bst_y (.inl (by show (-1 : Int) < 0; decide)), hr]; rfl
      · obtain rfl : i = 0 := by omega
        omega
    · obtain ⟨i0, h1, e, h2, h3⟩ := bst_char m (by omega) h0
      by_cases hq : (bstV fit n m).next < 0 ∨ (m : Int) + ((rstL fit n).getD m zR).cost < (bstV fit n m).cost ∨ (m : Int) + ((rstL fit n).getD m zR).cost = (bstV fit n m).cost ∧ ((rstL fit n).getD m zR).breaks < (bstV fit n m).breaks
      · rw [bst_y hq, hr]
        rw [hr, e] at hq
        dsimp only at hq
        have hq2 : tC fit n m < tC fit n i0 ∨ tC fit n m = tC fit n i0 ∧ tB_ fit n m < tB_ fit n i0 := by
          unfold tC tB_ at hq ⊢; omega
        refine ⟨m, by omega, rfl, fun i hi => ?_, fun i hi => ?_⟩
        · rcases Nat.lt_or_ge i m with h4 | h4
          · have := h2 i h4; omega
          · obtain rfl : i = m := by omega
            omega
        · have := h2 i hi; omega
      · rw [bst_n hq]
        rw [hr, e] at hq
        dsimp only at hq
        have hq2 : ¬ (tC fit n m < tC fit n i0 ∨ tC fit n m = tC fit n i0 ∧ tB_ fit n m < tB_ fit n i0) := by
          unfold tC tB_ at hq ⊢; omega
        refine ⟨i0, by omega, e, fun i hi => ?_, h3⟩
        rcases Nat.lt_or_ge i m with h4 | h4
        · exact h2 i h4
        · obtain rfl : i = m := by omega
          omega
theorem bt_char : ∀ d, d ≤ n → 0 < d → ∃ i0, n - d ≤ i0 ∧ i0 < n ∧ btT fit n (-1) d = (true, ⟨tC fit n i0, tB_ fit n i0, (eT fit n (n - 1 - i0)).kept⟩) ∧ (∀ i, n - d ≤ i → i < n → tC fit n i0 < tC fit n i ∨ tC fit n i0 = tC fit n i ∧ tB_ fit n i0 ≤ tB_ fit n i) ∧ (∀ i, n - d ≤ i → i < i0 → tC fit n i0 < tC fit n i ∨ tC fit n i0 = tC fit n i ∧ tB_ fit n i0 < tB_ fit n i)
  | d + 1, hd, _ => by
    obtain ⟨s1, s2, s3⟩ := two_same (fit := fit) (n := n) d (by omega)
    have hc : addT (innT fit n (-1) d (tl fit n (-1) d) d) ((n - 1 - d : Nat) : Int) = ⟨tC fit n (n - 1 - d), tB_ fit n (n - 1 - d), (eT fit n (n - 1 - (n - 1 - d))).kept⟩ := by
      unfold addT tC tB_
      rw [show n - 1 - (n - 1 - d) = d by omega, ← s1, ← s2, Int.mul_one, Int.add_comm]; rfl
    rw [btT, if_neg (by omega), hc]
    rcases Nat.eq_zero_or_pos d with h0 | h0
    · rw [if_pos (.inl (by subst h0; rfl))]
      refine ⟨n - 1 - d, by omega, by omega, rfl, fun i h1 h2 => ?_, fun i h1 h2 => by omega⟩
      obtain rfl : i = n - 1 - d := by omega
      omega
    · obtain ⟨i0, h1, h2, e, h3, h4⟩ := bt_char d (by omega) h0
      rw [e]
      dsimp only
      obtain ⟨t1, t2, t3⟩ := two_same (fit := fit) (n := n) (n - 1 - i0) (by omega)
      have hl : lessT ⟨tC fit n (n - 1 - d), tB_ fit n (n - 1 - d), (eT fit n (n - 1 - (n - 1 - d))).kept⟩ ⟨tC fit n i0, tB_ fit n i0, (eT fit n (n - 1 - i0)).kept⟩ = true ↔ (tC fit n (n - 1 - d) < tC fit n i0 ∨ tC fit n (n - 1 - d) = tC fit n i0 ∧ tB_ fit n (n - 1 - d) ≤ tB_ fit n i0) := by
        rw [less_dec']
        intro _ _
        dsimp only
        rw [show n - 1 - (n - 1 - d) = d by omega, s3, t3, cmpL]
        have hc3 : c3 ((n - 1 - d : Nat) : Int) ((n - 1 - (n - 1 - i0) : Nat) : Int) = -1 := by unfold c3; rw [if_pos (by omega)]
        rw [hc3]; simp
      by_cases hq : lessT ⟨tC fit n (n - 1 - d), tB_ fit n (n - 1 - d), (eT fit n (n - 1 - (n - 1 - d))).kept⟩ ⟨tC fit n i0, tB_ fit n i0, (eT fit n (n - 1 - i0)).kept⟩ = true
      · rw [if_pos (.inr hq)]
        have hq2 := hl.1 hq
        refine ⟨n - 1 - d, by omega, by omega, rfl, fun i h5 h6 => ?_, fun i h5 h6 => by omega⟩
        by_cases e5 : i = n - 1 - d
        · rw [e5]; omega
        · have := h3 i (by omega) h6; omega
      · rw [if_neg (by rintro (h | h); (· cases h); (· exact hq h))]
        have hq2 : ¬ (tC fit n (n - 1 - d) < tC fit n i0 ∨ tC fit n (n - 1 - d) = tC fit n i0 ∧ tB_ fit n (n - 1 - d) ≤ tB_ fit n i0) := fun h => hq (hl.2 h)
        refine ⟨i0, by omega, h2, rfl, fun i h5 h6 => ?_, fun i h5 h6 => ?_⟩
        · by_cases e5 : i = n - 1 - d
          · rw [e5]; omega
          · exact h3 i (by omega) h6
        · by_cases e5 : i = n - 1 - d
          · rw [e5]; omega
          · exact h4 i (by omega) h6
theorem tailK_at {j : Nat} (h : ¬ ats fit n j < 0) : tailK fit n (ats fit n j) = ats fit n j :: tailK fit n (ats fit n (j + 1)) := by
  have hb := ats_bd fit n j
  obtain ⟨s1, s2, s3⟩ := two_same (fit := fit) (n := n) (n - 1 - (ats fit n j).toNat) (by omega)
  have e : tailK fit n (ats fit n j) = (eT fit n (n - 1 - (ats fit n j).toNat)).kept := by rw [tailK, if_neg h]
  rw [e, s3, show ((n - 1 - (n - 1 - (ats fit n j).toNat) : Nat) : Int) = ats fit n j by omega]
  congr 2
  rw [ats, nxt, if_neg h, rstE (by omega)]
theorem kL_tail : ∀ j, kL fit n j ++ tailK fit n (ats fit n j) = tailK fit n (ats fit n 0)
  | 0 => rfl
  | j + 1 => by
    have ih := kL_tail j
    by_cases h : ats fit n j < 0
    · have h2 : ats fit n (j + 1) < 0 := by rw [ats, nxt_neg h]; decide
      rw [← ih, kL, if_pos h, tailK, if_pos h2, tailK, if_pos h]
    · rw [← ih, kL_y h, tailK_at h, List.append_assoc]; rfl
theorem stK_tail : stK fit n = tailK fit n (bstV fit n n).next := by
  have h := kL_tail (fit := fit) (n := n) (n + 1)
  have hb := ats_bd fit n (n + 1)
  rw [tailK, if_pos (by omega), List.append_nil] at h
  exact h
theorem best_same : (btT fit n (-1) n).2.cost = (bstV fit n n).cost ∧ (btT fit n (-1) n).2.kept = stK fit n := by
  rw [stK_tail]
  rcases Nat.eq_zero_or_pos n with h | h
  · subst h; exact ⟨rfl, rfl⟩
  · obtain ⟨i0, h1, e1, h2, h3⟩ := bst_char (fit := fit) (n := n) n (Nat.le_refl _) h
    obtain ⟨i1, g1, g2, e2, h4, h5⟩ := bt_char (fit := fit) (n := n) n (Nat.le_refl _) h
    have a := h2 i1 g2
    have b := h4 i0 (by omega) h1
    have e : i0 = i1 := by
      rcases Nat.lt_trichotomy i0 i1 with q | q | q
      · have := h5 i0 (by omega) q; omega
      · exact q
      · have := h3 i1 q; omega
    subst e
    rw [e1, e2]
    refine ⟨rfl, ?_⟩
    dsimp only
    rw [tailK, if_neg (by omega), Int.toNat_natCast]
/-! ### what the kept readings are -/
theorem kL_map {J : Nat} : (∀ i, i < J → 0 ≤ ats fit n i) → kL fit n J = (List.range J).map (ats fit n) := by
  induction J with
  | zero => intro _; rfl
  | succ J ih =>
    intro h
    rw [kL_y (by have := h J (by omega); omega), ih (fun i hi => h i (by omega)), List.range_succ, List.map_append]; rfl
theorem first_neg : ∃ J, J ≤ n + 1 ∧ ats fit n J < 0 ∧ ∀ i, i < J → 0 ≤ ats fit n i := by
  have key : ∀ d J, J + d = n + 1 → (∀ i, i < J → 0 ≤ ats fit n i) → ∃ J, J ≤ n + 1 ∧ ats fit n J < 0 ∧ ∀ i, i < J → 0 ≤ ats fit n i := by
    intro d
    induction d with
    | zero => intro J hJ h; exact ⟨J, by omega, by have := ats_bd fit n J; omega, h⟩
    | succ d ih =>
      intro J hJ h
      by_cases hn : ats fit n J < 0
      · exact ⟨J, by omega, hn, h⟩
      · exact ih (J + 1) (by omega) (fun i hi => by
          rcases Nat.lt_or_ge i J with h1 | h1
          · exact h i h1
          · obtain rfl : i = J := by omega
            omega)
  exact key (n + 1) 0 (by omega) (fun i hi => by omega)
theorem stK_map : ∃ J, J ≤ n + 1 ∧ ats fit n J < 0 ∧ (∀ i, i < J → 0 ≤ ats fit n i) ∧ stK fit n = (List.range J).map (ats fit n) ∧ (stK fit n).length = J := by
  obtain ⟨J, h1, h2, h3⟩ := first_neg (fit := fit) (n := n)
  have h4 := (st_end (fit := fit) (n := n) h2 h1).1
  have h5 : stK fit n = (List.range J).map (ats fit n) := by rw [← h4, kL_map h3]
  exact ⟨J, h1, h2, h3, h5, by rw [h5]; simp⟩
theorem stK_at {k : Nat} (h : k < (stK fit n).length) : (stK fit n).getD k 0 = ats fit n k ∧ 0 ≤ ats fit n k := by
  obtain ⟨J, h1, h2, h3, h4, h5⟩ := stK_map (fit := fit) (n := n)
  rw [h5] at h
  refine ⟨?_, h3 k h⟩
  rw [h4]; simp [List.getD, h]
theorem stK_nat {k : Nat} (h : k + 1 < (stK fit n).length) : ∃ a b : Nat, (stK fit n).getD k 0 = (a : Int) ∧ (stK fit n).getD (k + 1) 0 = (b : Int) ∧ a < b ∧ b < n := by
  obtain ⟨e1, h1⟩ := stK_at (fit := fit) (n := n) (k := k) (by omega)
  obtain ⟨e2, h2⟩ := stK_at h
  have hb := ats_bd fit n k
  have hb2 := ats_bd fit n (k + 1)
  have hx : ats fit n (k + 1) = -1 ∨ ats fit n k < ats fit n (k + 1) ∧ ats fit n (k + 1) < n := by rw [ats]; exact nxt_bd h1 hb.2.1
  exact ⟨(ats fit n k).toNat, (ats fit n (k + 1)).toNat, by rw [e1]; omega, by rw [e2]; omega, by omega, by omega⟩
/-- The breaks among kept readings, the first k steps gone. -/
def pL (fit : Nat → Nat → Bool) (K : List Int) : Nat → List Int
  | 0 => []
  | k + 1 => if fit (K.getD k 0).toNat (K.getD (k + 1) 0).toNat = false then pL fit K k ++ [K.getD (k + 1) 0] else pL fit K k
theorem pL_y {K : List Int} {k a b : Nat} (h1 : K.getD k 0 = (a : Int)) (h2 : K.getD (k + 1) 0 = (b : Int)) (h : fit a b = false) : pL fit K (k + 1) = pL fit K k ++ [K.getD (k + 1) 0] := by rw [pL, if_pos (by rw [h1, h2]; exact h)]
theorem pL_n {K : List Int} {k a b : Nat} (h1 : K.getD k 0 = (a : Int)) (h2 : K.getD (k + 1) 0 = (b : Int)) (h : fit a b = true) : pL fit K (k + 1) = pL fit K k := by rw [pL, if_neg (by rw [h1, h2]; simp; exact h)]
theorem pL_len {K : List Int} : ∀ k, (pL fit K k).length ≤ k
  | 0 => Nat.zero_le _
  | k + 1 => by
    have := pL_len (K := K) k
    rw [pL]; split
    · rw [List.length_append]; simp; omega
    · omega
theorem pL_bL : ∀ k, k < (stK fit n).length → pL fit (stK fit n) k = bL fit n k
  | 0, _ => rfl
  | k + 1, h => by
    have ih := pL_bL k (by omega)
    obtain ⟨e1, h1⟩ := stK_at (fit := fit) (n := n) (k := k) (by omega)
    obtain ⟨e2, h2⟩ := stK_at h
    rw [pL, e1, e2, ih]
    split
    · rename_i hq; rw [bL_y (by omega) h2 hq]
    · rename_i hq; rw [bL_n (by omega) (fun h => hq h.2)]
theorem pL_all {k : Nat} (h : (stK fit n).length ≤ k + 1) (h' : k + 1 ≤ (stK fit n).length ∨ k = 0) : pL fit (stK fit n) k = stB fit n := by
  obtain ⟨J, h1, h2, h3, h4, h5⟩ := stK_map (fit := fit) (n := n)
  have h6 := (st_end (fit := fit) (n := n) h2 h1).2
  rcases Nat.eq_zero_or_pos J with h0 | h0
  · obtain rfl : k = 0 := by omega
    rw [← h6, h0]; rfl
  · rw [pL_bL k (by omega), ← h6]
    obtain ⟨q, rfl⟩ : ∃ q, J = q + 1 := ⟨J - 1, by omega⟩
    obtain rfl : k = q := by omega
    rw [bL_n (by have := h3 k (by omega); omega) (by omega)]
/-! ### the answer -/
def storyV (s : List Int) (l : List VP) (f : VP) : VSt × Int := if askS s l f = false then (⟨[], [], 0⟩, 1) else (stV (fitsF s l f) l.length, 0)
theorem sto_1 {s : List Int} {l : List VP} {f : VP} (h : askS s l f = false) : storyV s l f = (⟨[], [], 0⟩, 1) := by unfold storyV; rw [if_pos h]
theorem sto_0 {s : List Int} {l : List VP} {f : VP} (h : askS s l f = true) : storyV s l f = (stV (fitsF s l f) l.length, 0) := by unfold storyV; rw [if_neg (by rw [h]; decide)]
end Go.W
namespace Go.Sx
open Go Go.RowKit Go.W
/-- A plan's list taken off the pile. -/
theorem liftOk {C : Cx} {m F : List Ent} {T : TypeId} {P : List Rw} {p : VPl} (h : OkPl T P p) (hp : m.Perm (.pile P :: F)) : ∀ w, Holds C.base C.w0 m w → Holds C.base C.w0 (.row (.slice p.A p.xs.length p.c) T 1 p.xs.length (p.xs.flatMap (eI .i64)) :: F) w := by
  intro w hw
  rcases h with ⟨h, _⟩ | ⟨h1, h2, h3⟩
  · obtain ⟨xs, ys, e⟩ := List.append_of_mem h
    have h4 := liftAt e hp w hw
    exact h4.sub (List.Sublist.cons_cons _ (List.Sublist.cons _ (List.Sublist.refl _)))
  · rw [h1, h2, h3]
    have h5 : Holds C.base C.w0 F w := (hw.perm hp).sub (List.Sublist.cons _ (List.Sublist.refl _))
    exact h5.new (Below.refl _ _) ⟨by simp, .inl ⟨rfl, rfl⟩⟩
end Go.Sx

/- A story without one reading, in plain numbers: told with the reading passed over, and told of the log without it. -/
set_option linter.unusedVariables false
set_option linter.unusedSimpArgs false
namespace Go.W
open Go Go.Sx
theorem rl_at {fit : Nat → Nat → Bool} {n j : Nat} : ∀ {d : Nat}, j < d → (rl fit n d).getD j zR = inn fit n j (rl fit n j) j
  | d + 1, h => by
    have hl := rl_len fit n d
    rw [rl]
    rcases Nat.lt_or_ge j d with h1 | h1
    · rw [snocR_at (by omega)]; exact rl_at h1
    · obtain rfl : j = d := by omega
      have := snocR_last (L := rl fit n j) (r := inn fit n j (rl fit n j) j); rwa [hl] at this
def upI (w i : Nat) : Nat := if i < w then i else i + 1
variable {fit fit' : Nat → Nat → Bool} {n w g : Nat}
theorem inTw_cost {d m : Nat} {L : List VT} (h : ¬ n - d + m = w) : (innT fit n (w : Int) d L (m + 1)).cost = min (innT fit n (w : Int) d L m).cost (candT fit n d L m).cost := by
  rw [innT, if_neg (by omega)]
  by_cases h : lessT (candT fit n d L m) (innT fit n (w : Int) d L m) = true
  · rw [if_pos h]; have := less_cost h; omega
  · rw [if_neg h]; have := less_not (by simpa using h); omega
theorem inTw_skip {d m : Nat} {L : List VT} (h : n - d + m = w) : (innT fit n (w : Int) d L (m + 1)) = innT fit n (w : Int) d L m := by
  rw [innT, if_pos (by omega)]
def tE (fit : Nat → Nat → Bool) (n w j : Nat) : Int := (innT fit n (w : Int) j (tl fit n (w : Int) j) j).cost
def rE (fit : Nat → Nat → Bool) (n j : Nat) : Int := (inn fit n j (rl fit n j) j).cost
theorem tE_at {d j : Nat} (h : j < d) (hn : ¬ n - 1 - j = w) : ((tl fit n (w : Int) d).getD j zT0).cost = tE fit n w j := by rw [tl_at h, if_neg (by omega)]; rfl
theorem rE_at {d j : Nat} (h : j < d) : ((rl fit n d).getD j zR).cost = rE fit n j := by rw [rl_at h]; rfl
theorem two_costs (hw : w < n) (hg : g = n - 1 - w) (hf : ∀ i k, i < k → k < n - 1 → fit' i k = fit (upI w i) (upI w k)) (j : Nat) : j < n → (j < g → tE fit n w j = rE fit' (n - 1) j) ∧ (g < j → tE fit n w j = rE fit' (n - 1) (j - 1) + 1) := by
  induction j using Nat.strongRecOn with
  | ind j ih =>
    intro hj
    refine ⟨fun h => ?_, fun h => ?_⟩
    · have key : ∀ m, m ≤ j → (innT fit n (w : Int) j (tl fit n (w : Int) j) m).cost = (inn fit' (n - 1) j (rl fit' (n - 1) j) m).cost := by
        intro m
        induction m with
        | zero => intro _; simp [innT, inn, fromT, zT0]
        | succ m ihm =>
          intro hm
          rw [inTw_cost (by omega), inn_cost, ihm (by omega)]
          have h2 := (ih (j - 1 - m) (by omega) (by omega)).1 (by omega)
          have h3 := hf (n - 1 - 1 - j) (n - 1 - j + m) (by omega) (by omega)
          have h4 : upI w (n - 1 - 1 - j) = n - 1 - j := by unfold upI; rw [if_neg (by omega)]; omega
          have h5 : upI w (n - 1 - j + m) = n - j + m := by unfold upI; rw [if_neg (by omega)]; omega
          rw [h4, h5] at h3
          simp only [candT, fromT, candC]
          rw [tE_at (by omega) (by omega), rE_at (by omega), h2, h3]; omega
      exact key j (Nat.le_refl _)
    · have key : ∀ m, m ≤ j → (innT fit n (w : Int) j (tl fit n (w : Int) j) m).cost = (inn fit' (n - 1) (j - 1) (rl fit' (n - 1) (j - 1)) (if m ≤ j - 1 - g then m else m - 1)).cost + 1 := by
        intro m
        induction m with
        | zero => intro _; simp [innT, inn, fromT, zT0]; omega
        | succ m ihm =>
          intro hm
          have ih1 := ihm (by omega)
          by_cases e1 : m = j - 1 - g
          · rw [inTw_skip (by omega), ih1, if_pos (by omega), if_neg (by omega)]; rfl
          · rw [inTw_cost (by omega), ih1]
            simp only [candT, fromT]
            rw [tE_at (by omega) (by omega)]
            by_cases e2 : m < j - 1 - g
            · rw [if_pos (by omega), if_pos (by omega), inn_cost]
              have h2 := (ih (j - 1 - m) (by omega) (by omega)).2 (by omega)
              have h3 := hf (n - 1 - 1 - (j - 1)) (n - 1 - (j - 1) + m) (by omega) (by omega)
              have h4 : upI w (n - 1 - 1 - (j - 1)) = n - 1 - j := by unfold upI; rw [if_pos (by omega)]; omega
              have h5 : upI w (n - 1 - (j - 1) + m) = n - j + m := by unfold upI; rw [if_pos (by omega)]; omega
              rw [h4, h5] at h3
              simp only [candC]
              rw [rE_at (by omega), h2, h3, show j - 1 - 1 - m = j - 1 - m - 1 by omega]; omega
            · rw [if_neg (by omega), if_neg (by omega)]
              obtain ⟨q, rfl⟩ : ∃ q, m = q + 1 := ⟨m - 1, by omega⟩
              rw [Nat.add_sub_cancel, Nat.add_sub_cancel, inn_cost]
              have h2 := (ih (j - 1 - (q + 1)) (by omega) (by omega)).1 (by omega)
              have h3 := hf (n - 1 - 1 - (j - 1)) (n - 1 - (j - 1) + q) (by omega) (by omega)
              have h4 : upI w (n - 1 - 1 - (j - 1)) = n - 1 - j := by unfold upI; rw [if_pos (by omega)]; omega
              have h5 : upI w (n - 1 - (j - 1) + q) = n - j + (q + 1) := by unfold upI; rw [if_neg (by omega)]; omega
              rw [h4, h5] at h3
              simp only [candC]
              rw [rE_at (by omega), h2, h3, show j - 1 - 1 - q = j - 1 - (q + 1) by omega]; push_cast; omega
      have := key j (Nat.le_refl _)
      rw [if_neg (by omega)] at this
      exact this
def totT (fit : Nat → Nat → Bool) (n w j : Nat) : Int := ((n - 1 - j : Nat) : Int) + tE fit n w j
theorem btw_min (hw : w < n) (hg : g = n - 1 - w) : ∀ d, d ≤ n → (∀ j, j < d → j ≠ g → (btT fit n (w : Int) d).1 = true ∧ (btT fit n (w : Int) d).2.cost ≤ totT fit n w j) ∧ ((btT fit n (w : Int) d).1 = true → ∃ j, j < d ∧ j ≠ g ∧ (btT fit n (w : Int) d).2.cost = totT fit n w j)
  | 0, _ => ⟨fun j hj => by omega, fun h => by simp [btT] at h⟩
  | d + 1, hd => by
    have ih := btw_min hw hg d (by omega)
    rw [btT]
    by_cases e : d = g
    · rw [if_pos (by omega)]
      exact ⟨fun j h1 h2 => ih.1 j (by omega) h2, fun h => by obtain ⟨j, h1, h2⟩ := ih.2 h; exact ⟨j, by omega, h2⟩⟩
    · rw [if_neg (by omega)]
      have hc : (addT (innT fit n (w : Int) d (tl fit n (w : Int) d) d) ((n - 1 - d : Nat) : Int)).cost = totT fit n w d := by unfold totT addT tE; dsimp only; omega
      by_cases hq : (btT fit n (w : Int) d).1 = false ∨ lessT (addT (innT fit n (w : Int) d (tl fit n (w : Int) d) d) ((n - 1 - d : Nat) : Int)) (btT fit n (w : Int) d).2 = true
      · rw [if_pos hq]
        refine ⟨fun j h1 h2 => ⟨rfl, ?_⟩, fun _ => ⟨d, by omega, e, hc⟩⟩
        show (addT _ _).cost ≤ _
        rw [hc]
        by_cases e2 : j = d
        · rw [e2]; exact Int.le_refl _
        · have h3 := ih.1 j (by omega) h2
          rcases hq with hq | hq
          · rw [h3.1] at hq; cases hq
          · have := less_cost hq; rw [hc] at this; omega
      · rw [if_neg hq]
        have ht : (btT fit n (w : Int) d).1 = true := by
          cases h6 : (btT fit n (w : Int) d).1 with
          | true => rfl
          | false => exact absurd (.inl h6) hq
        refine ⟨fun j h1 h2 => ⟨ht, ?_⟩, fun h => by obtain ⟨j, h1, h2⟩ := ih.2 h; exact ⟨j, by omega, h2⟩⟩
        by_cases e2 : j = d
        · have h5 : lessT (addT (innT fit n (w : Int) d (tl fit n (w : Int) d) d) ((n - 1 - d : Nat) : Int)) (btT fit n (w : Int) d).2 = false := by
            cases h6 : lessT (addT (innT fit n (w : Int) d (tl fit n (w : Int) d) d) ((n - 1 - d : Nat) : Int)) (btT fit n (w : Int) d).2 with
            | false => rfl
            | true => exact absurd (.inr h6) hq
          have := less_not h5; rw [hc] at this; rw [e2]; exact this
        · exact (ih.1 j (by omega) h2).2
theorem rst_rE {i : Nat} (h : i < n) : ((rstL fit n).getD i zR).cost = rE fit n (n - 1 - i) := by
  unfold rstL; rw [outR_at (Nat.le_refl _) (by omega) h, rE_at (by omega)]
theorem cost_without (hw : w < n) (hn : 2 ≤ n) (hf : ∀ i k, i < k → k < n - 1 → fit' i k = fit (upI w i) (upI w k)) : (btT fit n (w : Int) n).2.cost = (bstV fit' (n - 1) (n - 1)).cost + 1 := by
  obtain ⟨g, hg⟩ : ∃ g, g = n - 1 - w := ⟨_, rfl⟩
  have h1 := btw_min (fit := fit) hw hg n (Nat.le_refl _)
  have h2 := bst_min (fit := fit') (n := n - 1) (n - 1) (Nat.le_refl _) (by omega)
  have ht : (btT fit n (w : Int) n).1 = true := by
    by_cases e : g = 0
    · exact (h1.1 1 (by omega) (by omega)).1
    · exact (h1.1 0 (by omega) (by omega)).1
  obtain ⟨j, hj, hjg, e1⟩ := h1.2 ht
  obtain ⟨i, hi, e2⟩ := h2.2.1
  have h3 := two_costs (fit' := fit') hw hg hf
  -- the one way
  have a1 : (bstV fit' (n - 1) (n - 1)).cost + 1 ≤ (btT fit n (w : Int) n).2.cost := by
    rw [e1]; unfold totT
    rcases Nat.lt_or_gt_of_ne hjg with hq | hq
    · have h4 := h2.1 (n - 1 - 1 - j) (by omega)
      unfold totC_ at h4
      rw [rst_rE (by omega), show n - 1 - 1 - (n - 1 - 1 - j) = j by omega] at h4
      rw [(h3 j hj).1 hq]; omega
    · have h4 := h2.1 (n - 1 - 1 - (j - 1)) (by omega)
      unfold totC_ at h4
      rw [rst_rE (by omega), show n - 1 - 1 - (n - 1 - 1 - (j - 1)) = j - 1 by omega] at h4
      rw [(h3 j hj).2 hq]; omega
  -- and the other
  have a2 : (btT fit n (w : Int) n).2.cost ≤ (bstV fit' (n - 1) (n - 1)).cost + 1 := by
    rw [e2]; unfold totC_; rw [rst_rE (by omega)]
    by_cases hq : n - 1 - 1 - i < g
    · have h4 := (h1.1 (n - 1 - 1 - i) (by omega) (by omega)).2
      unfold totT at h4
      rw [(h3 _ (by omega)).1 hq] at h4; omega
    · have h4 := (h1.1 (n - 1 - 1 - i + 1) (by omega) (by omega)).2
      unfold totT at h4
      rw [(h3 _ (by omega)).2 (by omega), Nat.add_sub_cancel] at h4; omega
  omega
/-- The log without one reading. -/
def cutL (l : List VP) (w : Nat) : List VP := l.take w ++ l.drop (w + 1)
theorem cutL_len {l : List VP} (h : w < l.length) : (cutL l w).length = l.length - 1 := by unfold cutL; simp; omega
theorem cutL_at {l : List VP} {i : Nat} (h : w < l.length) : (cutL l w).getD i zP = l.getD (upI w i) zP := by
  unfold cutL upI
  simp only [List.getD]
  by_cases e : i < w
  · rw [if_pos e, List.getElem?_append_left (by simp; omega), List.getElem?_take, if_pos e]
  · rw [if_neg e, List.getElem?_append_right (by simp; omega), List.getElem?_drop]
    simp only [List.length_take]
    rw [show w + 1 + (i - min w l.length) = i + 1 by omega]
theorem Log.upk {s : List Int} {l : List VP} (h : Log s l) {i : Nat} : ∀ {k : Nat}, i < k → k < l.length → (l.getD i zP).a < (l.getD k zP).a
  | k + 1, h1, h2 => by
    have h3 := h.up k h2
    rcases Nat.lt_or_ge i k with h4 | h4
    · have := Log.upk h h4 (by omega); omega
    · obtain rfl : i = k := by omega
      exact h3
theorem upI_lt {i k : Nat} (h : i < k) : upI w i < upI w k := by unfold upI; split <;> split <;> omega
theorem upI_le {i m : Nat} (h : i < m - 1) : upI w i < m := by unfold upI; split <;> omega
theorem Log.cut {s : List Int} {l : List VP} (h : Log s l) (hw : w < l.length) : Log s (cutL l w) := by
  have hl := cutL_len (l := l) hw
  refine ⟨h.stk, by have := h.len; omega, fun i hi => ?_, fun i hi => ?_, fun i hi => ?_⟩
  · rw [cutL_at hw]; exact h.day _ (upI_le (by omega))
  · rw [cutL_at hw]; exact h.val _ (upI_le (by omega))
  · rw [cutL_at hw, cutL_at hw]; exact h.upk (upI_lt (by omega)) (upI_le (by omega))
theorem fits_cut {s : List Int} {l : List VP} {f : VP} (hw : w < l.length) (i k : Nat) : fitsF s (cutL l w) f i k = fitsF s l f (upI w i) (upI w k) := by
  unfold fitsF; rw [cutL_at hw, cutL_at hw]
/-- What a story without a reading costs, and the code. -/
def withoutV (s : List Int) (l : List VP) (f : VP) (w : Int) : Int × Int :=
  if askS s l f = false then (0, 1) else if ¬ (0 ≤ w ∧ w ≤ (l.length : Int) - 1) then (0, 2) else if l.length = 1 then (0, 6) else ((btT (fitsF s l f) l.length w l.length).2.cost, 0)
theorem wt_1 {s : List Int} {l : List VP} {f : VP} {w : Int} (h : askS s l f = false) : withoutV s l f w = (0, 1) := by unfold withoutV; rw [if_pos h]
theorem wt_2 {s : List Int} {l : List VP} {f : VP} {w : Int} (h : askS s l f = true) (h1 : ¬ (0 ≤ w ∧ w ≤ (l.length : Int) - 1)) : withoutV s l f w = (0, 2) := by unfold withoutV; rw [if_neg (by rw [h]; decide), if_pos h1]
theorem wt_6 {s : List Int} {l : List VP} {f : VP} {w : Int} (h : askS s l f = true) (h1 : 0 ≤ w ∧ w ≤ (l.length : Int) - 1) (h2 : l.length = 1) : withoutV s l f w = (0, 6) := by unfold withoutV; rw [if_neg (by rw [h]; decide), if_neg (by omega), if_pos h2]
theorem wt_0 {s : List Int} {l : List VP} {f : VP} {w : Int} (h : askS s l f = true) (h1 : 0 ≤ w ∧ w ≤ (l.length : Int) - 1) (h2 : l.length ≠ 1) : withoutV s l f w = ((btT (fitsF s l f) l.length w l.length).2.cost, 0) := by unfold withoutV; rw [if_neg (by rw [h]; decide), if_neg (by omega), if_neg h2]
theorem wt_c {s : List Int} {l : List VP} {f : VP} {w : Nat} (hw : w < l.length) (h2 : l.length ≠ 1) : (btT (fitsF s l f) l.length (w : Int) l.length).2.cost = (bstV (fitsF s (cutL l w) f) (cutL l w).length (cutL l w).length).cost + 1 := by
  rw [cutL_len hw]
  exact cost_without hw (by omega) (fun i k _ _ => fits_cut hw i k)
end Go.W

/- Stories: no story that is told costs less than the best one. -/
set_option linter.unusedVariables false
set_option linter.unusedSimpArgs false
namespace Go.W
open Go Go.Sx
variable {fit : Nat → Nat → Bool} {n : Nat}
/-! the rest from a reading on -/
def rC (fit : Nat → Nat → Bool) (n i : Nat) : Int := ((rstL fit n).getD i zR).cost
theorem inn_le {d : Nat} {L : List VR} : ∀ m, (inn fit n d L m).cost ≤ (d : Int)
  | 0 => Int.le_refl _
  | m + 1 => by have := inn_le (d := d) (L := L) m; rw [inn_cost]; omega
theorem inn_leC {d : Nat} {L : List VR} {j : Nat} : ∀ {m : Nat}, j < m → (inn fit n d L m).cost ≤ candC fit n d L j
  | m + 1, h => by
    rw [inn_cost]
    rcases Nat.lt_or_ge j m with h1 | h1
    · have := inn_leC (d := d) (L := L) h1; omega
    · obtain rfl : j = m := by omega
      omega
theorem inn_is {d : Nat} {L : List VR} : ∀ m, ((inn fit n d L m).next = -1 ∧ (inn fit n d L m).cost = (d : Int)) ∨ ∃ j, j < m ∧ (inn fit n d L m).next = ((n - d + j : Nat) : Int) ∧ (inn fit n d L m).cost = candC fit n d L j
  | 0 => .inl ⟨rfl, rfl⟩
  | m + 1 => by
    by_cases h : candC fit n d L m < (inn fit n d L m).cost ∨ candC fit n d L m = (inn fit n d L m).cost ∧ candB fit n d L m < (inn fit n d L m).breaks
    · rw [inn_y h]; exact .inr ⟨m, Nat.lt_succ_self m, rfl, rfl⟩
    · rw [inn_n h]
      rcases inn_is (d := d) (L := L) m with h1 | ⟨j, hj, h1, h2⟩
      · exact .inl h1
      · exact .inr ⟨j, by omega, h1, h2⟩
theorem cand_rC {i k m : Nat} (hi : i < k) (hk : k < n) (hm : m = k - i - 1) : candC fit n (n - 1 - i) (rl fit n (n - 1 - i)) m = ((k : Int) - i - 1) + 2 * brk (fit i k) + rC fit n k := by
  subst hm
  unfold candC rC
  rw [show n - 1 - (n - 1 - i) = i by omega, show n - (n - 1 - i) + (k - i - 1) = k by omega, rlE (by omega), rstE hk, show n - 1 - i - 1 - (k - i - 1) = n - 1 - k by omega]
  omega
theorem rC_eq {i : Nat} (h : i < n) : rC fit n i = (inn fit n (n - 1 - i) (rl fit n (n - 1 - i)) (n - 1 - i)).cost := by unfold rC; rw [rstE h]; rfl
theorem rC_end {i : Nat} (h : i < n) : rC fit n i ≤ (n : Int) - 1 - i := by
  rw [rC_eq h]
  have := inn_le (fit := fit) (n := n) (d := n - 1 - i) (L := rl fit n (n - 1 - i)) (n - 1 - i)
  omega
theorem rC_step {i k : Nat} (h : i < k) (hk : k < n) : rC fit n i ≤ ((k : Int) - i - 1) + 2 * brk (fit i k) + rC fit n k := by
  rw [rC_eq (show i < n by omega), ← cand_rC h hk rfl]
  exact inn_leC (by omega)
theorem rC_is {i : Nat} (h : i < n) : (((rstL fit n).getD i zR).next = -1 ∧ rC fit n i = (n : Int) - 1 - i) ∨ ∃ k, i < k ∧ k < n ∧ ((rstL fit n).getD i zR).next = (k : Int) ∧ rC fit n i = ((k : Int) - i - 1) + 2 * brk (fit i k) + rC fit n k := by
  rw [rC_eq h, rstE h]
  rcases inn_is (fit := fit) (n := n) (d := n - 1 - i) (L := rl fit n (n - 1 - i)) (n - 1 - i) with ⟨h1, h2⟩ | ⟨j, hj, h1, h2⟩
  · exact .inl ⟨h1, by rw [h2]; omega⟩
  · refine .inr ⟨i + 1 + j, by omega, by omega, ?_, ?_⟩
    · show (inn fit n (n - 1 - i) (rl fit n (n - 1 - i)) (n - 1 - i)).next = _
      rw [h1]; omega
    · rw [h2, cand_rC (k := i + 1 + j) (by omega) (by omega) (by omega)]
/-! readings that are kept, and what lies between -/
structure Ris (n : Nat) (K : List Int) : Prop where
  bd : ∀ j, j < K.length → 0 ≤ K.getD j 0 ∧ K.getD j 0 < (n : Int)
  up : ∀ j, j + 1 < K.length → K.getD j 0 < K.getD (j + 1) 0
def brN (fit : Nat → Nat → Bool) (K : List Int) : Nat → Int
  | 0 => 0
  | k + 1 => brN fit K k + brk (fit (K.getD k 0).toNat (K.getD (k + 1) 0).toNat)
theorem brN_nn (K : List Int) : ∀ k, 0 ≤ brN fit K k
  | 0 => Int.le_refl _
  | k + 1 => by have := brN_nn K k; have := brk_bd (fit (K.getD k 0).toNat (K.getD (k + 1) 0).toNat); rw [brN]; omega
theorem brN_pL (K : List Int) : ∀ k, ((pL fit K k).length : Int) = brN fit K k
  | 0 => rfl
  | k + 1 => by
    have ih := brN_pL K k
    rw [pL, brN]
    split
    · next h => rw [h, brk_f, List.length_append]; simp only [List.length_cons, List.length_nil]; omega
    · next h => rw [show fit (K.getD k 0).toNat (K.getD (k + 1) 0).toNat = true by simpa using h, brk_t]; omega
theorem Ris.lt {K : List Int} (h : Ris n K) : ∀ {i j : Nat}, i < j → j < K.length → K.getD i 0 < K.getD j 0 := by
  intro i j hij hj
  induction j with
  | zero => omega
  | succ j ih =>
    have h1 := h.up j hj
    rcases Nat.lt_or_ge i j with h2 | h2
    · have := ih h2 (by omega); omega
    · obtain rfl : i = j := by omega
      exact h1
theorem Ris.lo {K : List Int} (h : Ris n K) : ∀ j, j < K.length → (j : Int) ≤ K.getD j 0
  | 0, hj => (h.bd 0 hj).1
  | j + 1, hj => by have := h.lo j (by omega); have := h.up j hj; omega
theorem Ris.hi {K : List Int} (h : Ris n K) : ∀ t, t < K.length → K.getD (K.length - 1 - t) 0 + (t : Int) < (n : Int)
  | 0, hj => by have := (h.bd (K.length - 1 - 0) (by omega)).2; omega
  | t + 1, hj => by
    have h1 := h.hi t (by omega)
    have h2 := h.up (K.length - 1 - (t + 1)) (by omega)
    rw [show K.length - 1 - (t + 1) + 1 = K.length - 1 - t by omega] at h2
    omega
theorem Ris.len {K : List Int} (h : Ris n K) : K.length ≤ n := by
  rcases Nat.eq_zero_or_pos K.length with h0 | h0
  · omega
  · have h1 := h.lo (K.length - 1) (by omega)
    have h2 := (h.bd (K.length - 1) (by omega)).2
    omega
theorem rest_le {K : List Int} (h : Ris n K) : ∀ t, t < K.length → rC fit n (K.getD (K.length - 1 - t) 0).toNat ≤ (n : Int) - 1 - K.getD (K.length - 1 - t) 0 - (t : Int) + 2 * (brN fit K (K.length - 1) - brN fit K (K.length - 1 - t))
  | 0, ht => by
    have h1 := h.bd (K.length - 1) (by omega)
    have h2 := rC_end (fit := fit) (n := n) (i := (K.getD (K.length - 1) 0).toNat) (by omega)
    rw [Nat.sub_zero]; omega
  | t + 1, ht => by
    have ih := rest_le h t (by omega)
    have h1 := h.bd (K.length - 1 - (t + 1)) (by omega)
    have h2 := h.up (K.length - 1 - (t + 1)) (by omega)
    have e : K.length - 1 - t = K.length - 1 - (t + 1) + 1 := by omega
    rw [e] at ih
    have h3 := h.bd (K.length - 1 - (t + 1) + 1) (by omega)
    have h4 := rC_step (fit := fit) (n := n) (i := (K.getD (K.length - 1 - (t + 1)) 0).toNat) (k := (K.getD (K.length - 1 - (t + 1) + 1) 0).toNat) (by omega) (by omega)
    rw [brN] at ih
    omega
theorem best_le {K : List Int} (h : Ris n K) (hl : 0 < K.length) : (bstV fit n n).cost ≤ (n : Int) - K.length + 2 * brN fit K (K.length - 1) := by
  have h1 := rest_le (fit := fit) h (K.length - 1) (by omega)
  rw [Nat.sub_self] at h1
  have h2 := h.bd 0 hl
  have h3 := (bst_min (fit := fit) (n := n) n (Nat.le_refl _) (by omega)).1 (K.getD 0 0).toNat (by omega)
  have e : totC_ fit n (K.getD 0 0).toNat = ((K.getD 0 0).toNat : Int) + rC fit n (K.getD 0 0).toNat := rfl
  rw [e] at h3
  have e2 : brN fit K 0 = 0 := rfl
  rw [e2] at h1
  omega
/-! what is ahead of a reading -/
def fC (fit : Nat → Nat → Bool) (i : Nat) : Int := finV fit i (fl fit i) i
theorem fin_le {i : Nat} {L : List Int} : ∀ k, finV fit i L k ≤ (i : Int)
  | 0 => Int.le_refl _
  | k + 1 => by have := fin_le (i := i) (L := L) k; rw [finV]; omega
theorem fin_leC {i j : Nat} {L : List Int} : ∀ {k : Nat}, j < k → finV fit i L k ≤ L.getD j 0 + (((i - j - 1 : Nat) : Int) + 2 * brk (fit j i))
  | k + 1, h => by
    rw [finV]
    rcases Nat.lt_or_ge j k with h1 | h1
    · have := fin_leC (i := i) (L := L) h1; omega
    · obtain rfl : j = k := by omega
      omega
theorem fC_step {i k : Nat} (h : k < i) : fC fit i ≤ fC fit k + ((i : Int) - k - 1) + 2 * brk (fit k i) := by
  have h1 := fin_leC (fit := fit) (i := i) (L := fl fit i) h
  rw [fl_at h] at h1
  unfold fC
  omega
theorem head_le {K : List Int} (h : Ris n K) : ∀ j, j < K.length → fC fit (K.getD j 0).toNat ≤ K.getD j 0 - (j : Int) + 2 * brN fit K j
  | 0, hj => by
    have h1 := h.bd 0 hj
    have h2 := fin_le (fit := fit) (i := (K.getD 0 0).toNat) (L := fl fit (K.getD 0 0).toNat) (K.getD 0 0).toNat
    have e2 : brN fit K 0 = 0 := rfl
    unfold fC; rw [e2]; omega
  | j + 1, hj => by
    have ih := head_le h j (by omega)
    have h1 := h.bd j (by omega)
    have h2 := h.up j hj
    have h3 := h.bd (j + 1) hj
    have h4 := fC_step (fit := fit) (i := (K.getD (j + 1) 0).toNat) (k := (K.getD j 0).toNat) (by omega)
    rw [brN]; omega
theorem with_le {K : List Int} (h : Ris n K) {j : Nat} (hj : j < K.length) : fC fit (K.getD j 0).toNat + rC fit n (K.getD j 0).toNat ≤ (n : Int) - K.length + 2 * brN fit K (K.length - 1) := by
  have h1 := head_le (fit := fit) h j hj
  have h2 := rest_le (fit := fit) h (K.length - 1 - j) (by omega)
  rw [show K.length - 1 - (K.length - 1 - j) = j by omega] at h2
  omega
/-! the best story's own readings -/
theorem stK_ris : Ris n (stK fit n) := by
  refine ⟨fun j hj => ?_, fun j hj => ?_⟩
  · obtain ⟨e, h⟩ := stK_at hj
    have := ats_bd fit n j
    rw [e]; omega
  · obtain ⟨a, b, h1, h2, h3, _⟩ := stK_nat hj
    rw [h1, h2]; omega
theorem stK_rest : ∀ t, t < (stK fit n).length → rC fit n ((stK fit n).getD ((stK fit n).length - 1 - t) 0).toNat = (n : Int) - 1 - (stK fit n).getD ((stK fit n).length - 1 - t) 0 - (t : Int) + 2 * (brN fit (stK fit n) ((stK fit n).length - 1) - brN fit (stK fit n) ((stK fit n).length - 1 - t))
  | 0, ht => by
    obtain ⟨J, h1, h2, h3, h4, h5⟩ := stK_map (fit := fit) (n := n)
    obtain ⟨e, h6⟩ := stK_at (fit := fit) (n := n) (k := (stK fit n).length - 1) (by omega)
    have hb := ats_bd fit n ((stK fit n).length - 1)
    rw [Nat.sub_zero, e]
    have hn : ats fit n ((stK fit n).length - 1 + 1) < 0 := by rw [show (stK fit n).length - 1 + 1 = J by omega]; exact h2
    rw [ats, nxt, if_neg (by omega)] at hn
    rcases rC_is (fit := fit) (n := n) (i := (ats fit n ((stK fit n).length - 1)).toNat) (by omega) with h7 | ⟨k, _, _, h7, _⟩
    · rw [h7.2]; omega
    · rw [h7] at hn; omega
  | t + 1, ht => by
    have ih := stK_rest t (by omega)
    have e : (stK fit n).length - 1 - t = (stK fit n).length - 1 - (t + 1) + 1 := by omega
    rw [e] at ih
    generalize hj : (stK fit n).length - 1 - (t + 1) = j at *
    obtain ⟨e1, h1⟩ := stK_at (fit := fit) (n := n) (k := j) (by omega)
    obtain ⟨e2, h2⟩ := stK_at (fit := fit) (n := n) (k := j + 1) (by omega)
    have hb1 := ats_bd fit n j
    have hb2 := ats_bd fit n (j + 1)
    have hx : ats fit n (j + 1) = ((rstL fit n).getD (ats fit n j).toNat zR).next := by rw [ats, nxt, if_neg (by omega)]
    rw [brN, e1, e2] at ih
    rw [e1]
    rcases rC_is (fit := fit) (n := n) (i := (ats fit n j).toNat) (by omega) with h7 | ⟨k, h8, h9, h7, h10⟩
    · rw [h7.1] at hx; omega
    · rw [h7] at hx
      have e3 : (ats fit n (j + 1)).toNat = k := by omega
      rw [e3] at ih
      rw [h10, ih, hx]; omega
theorem best_is (hn : 0 < n) : 0 < (stK fit n).length ∧ (bstV fit n n).cost = (n : Int) - (stK fit n).length + 2 * brN fit (stK fit n) ((stK fit n).length - 1) := by
  obtain ⟨J, h1, h2, h3, h4, h5⟩ := stK_map (fit := fit) (n := n)
  obtain ⟨i0, g1, g2, _, _⟩ := bst_char (fit := fit) (n := n) n (Nat.le_refl _) hn
  have e0 : ats fit n 0 = (i0 : Int) := by rw [ats, g2]
  have hJ : 0 < J := by
    rcases Nat.eq_zero_or_pos J with h | h
    · rw [h, e0] at h2; omega
    · exact h
  refine ⟨by omega, ?_⟩
  obtain ⟨e1, h6⟩ := stK_at (fit := fit) (n := n) (k := 0) (by omega)
  have h7 := stK_rest (fit := fit) (n := n) ((stK fit n).length - 1) (by omega)
  rw [Nat.sub_self, e1, e0, Int.toNat_natCast] at h7
  have e2 : brN fit (stK fit n) 0 = 0 := rfl
  rw [e2] at h7
  have e3 : tC fit n i0 = (i0 : Int) + rC fit n i0 := by unfold tC rC; rw [rstE g1]
  rw [g2]
  show tC fit n i0 = _
  rw [e3, h7]; omega
theorem stB_pL : stB fit n = pL fit (stK fit n) ((stK fit n).length - 1) := by
  symm
  rcases Nat.eq_zero_or_pos (stK fit n).length with h | h
  · exact pL_all (by omega) (.inr (by omega))
  · exact pL_all (by omega) (.inl (by omega))
theorem zero_n (h : n = 0) : stK fit n = [] ∧ stB fit n = [] ∧ (bstV fit n n).cost = 0 := by
  subst h
  have h1 := (stK_ris (fit := fit) (n := 0)).len
  have h2 : stK fit 0 = [] := List.length_eq_zero_iff.1 (by omega)
  refine ⟨h2, ?_, rfl⟩
  rw [stB_pL, h2]; rfl
/-! a story that is told -/
structure Told (fit : Nat → Nat → Bool) (n : Nat) (y : VSt) : Prop where
  k : Ris n y.kept
  b : Ris n y.breaks
  pos : 0 < n → 0 < y.kept.length
  mem : ∀ i, i < y.breaks.length → ∃ j, j + 1 < y.kept.length ∧ y.kept.getD (j + 1) 0 = y.breaks.getD i 0
  gap : ∀ j, j + 1 < y.kept.length → fit (y.kept.getD j 0).toNat (y.kept.getD (j + 1) 0).toNat = false → ∃ i, i < y.breaks.length ∧ y.breaks.getD i 0 = y.kept.getD (j + 1) 0
  cost : y.cost = (n : Int) - y.kept.length + 2 * y.breaks.length
theorem pL_mem {K : List Int} {x : Int} : ∀ {k : Nat}, x ∈ pL fit K k ↔ ∃ j, j < k ∧ K.getD (j + 1) 0 = x ∧ fit (K.getD j 0).toNat (K.getD (j + 1) 0).toNat = false
  | 0 => by simp [pL]
  | k + 1 => by
    have ih := pL_mem (K := K) (x := x) (k := k)
    rw [pL]
    split
    · next h =>
      rw [List.mem_append, ih, List.mem_singleton]
      constructor
      · rintro (⟨j, h1, h2⟩ | rfl)
        · exact ⟨j, by omega, h2⟩
        · exact ⟨k, by omega, rfl, h⟩
      · rintro ⟨j, h1, h2, h3⟩
        rcases Nat.lt_or_ge j k with h4 | h4
        · exact .inl ⟨j, h4, h2, h3⟩
        · obtain rfl : j = k := by omega
          exact .inr h2.symm
    · next h =>
      rw [ih]
      constructor
      · rintro ⟨j, h1, h2⟩; exact ⟨j, by omega, h2⟩
      · rintro ⟨j, h1, h2, h3⟩
        rcases Nat.lt_or_ge j k with h4 | h4
        · exact ⟨j, h4, h2, h3⟩
        · obtain rfl : j = k := by omega
          exact absurd h3 h
theorem pL_up {K : List Int} (h : Ris n K) : ∀ {k : Nat}, k < K.length ∨ k = 0 → (pL fit K k).Pairwise (· < ·) ∧ ∀ x, x ∈ pL fit K k → x ≤ K.getD k 0
  | 0, _ => ⟨List.Pairwise.nil, fun x hx => by simp [pL] at hx⟩
  | k + 1, hk => by
    obtain ⟨h1, h2⟩ := pL_up h (k := k) (.inl (by omega))
    have h3 := h.up k (by omega)
    rw [pL]
    split
    · refine ⟨List.pairwise_append.2 ⟨h1, List.pairwise_singleton _ _, fun x hx y hy => ?_⟩, fun x hx => ?_⟩
      · have := h2 x hx; rw [List.mem_singleton.1 hy]; omega
      · rcases List.mem_append.1 hx with h4 | h4
        · have := h2 x h4; omega
        · rw [List.mem_singleton.1 h4]; exact Int.le_refl _
    · exact ⟨h1, fun x hx => by have := h2 x hx; omega⟩
theorem up_getD {l : List Int} (h : l.Pairwise (· < ·)) {j : Nat} (hj : j + 1 < l.length) : l.getD j 0 < l.getD (j + 1) 0 := by
  have := List.pairwise_iff_getElem.1 h j (j + 1) (by omega) hj (by omega)
  simpa [List.getD, hj, show j < l.length by omega] using this
theorem memI_at {l : List Int} {x : Int} (h : x ∈ l) : ∃ k, k < l.length ∧ l.getD k 0 = x := by
  obtain ⟨k, hk, rfl⟩ := List.getElem_of_mem h
  exact ⟨k, hk, by simp [List.getD, hk]⟩
theorem sub_len : ∀ {a b : List Int}, a.Nodup → (∀ x, x ∈ a → x ∈ b) → a.length ≤ b.length
  | [], _, _, _ => Nat.zero_le _
  | x :: a, b, hn, h => by
    have hx := h x (List.mem_cons_self ..)
    have hn2 := List.nodup_cons.1 hn
    have ih := sub_len (a := a) (b := b.erase x) hn2.2 fun y hy => (List.mem_erase_of_ne (fun e => hn2.1 (by rw [← e]; exact hy))).2 (h y (List.mem_cons_of_mem _ hy))
    rw [List.length_erase_of_mem hx] at ih
    have := List.length_pos_of_mem hx
    rw [List.length_cons]; omega
theorem pL_bd {K : List Int} (h : Ris n K) {k : Nat} (hk : k + 1 ≤ K.length ∨ k = 0) : Ris n (pL fit K k) := by
  have h1 := pL_up (fit := fit) h (k := k) (by omega)
  refine ⟨fun j hj => ?_, fun j hj => up_getD h1.1 hj⟩
  obtain ⟨i, h2, h3, _⟩ := pL_mem.1 (getD_mem (0 : Int) hj)
  rw [← h3]
  exact h.bd (i + 1) (by omega)
theorem told_due : Told fit n (stV fit n) := by
  have hK := stK_ris (fit := fit) (n := n)
  have hB := stB_pL (fit := fit) (n := n)
  refine ⟨hK, ?_, fun h => (best_is h).1, fun i hi => ?_, fun j hj hf => ?_, ?_⟩
  · show Ris n (stB fit n)
    rw [hB]; exact pL_bd hK (by omega)
  · have hi2 : i < (stB fit n).length := hi
    have hm : (stB fit n).getD i 0 ∈ pL fit (stK fit n) ((stK fit n).length - 1) := by rw [← hB]; exact getD_mem 0 hi2
    obtain ⟨j, h1, h2, _⟩ := pL_mem.1 hm
    exact ⟨j, by show j + 1 < (stK fit n).length; omega, h2⟩
  · have : (stK fit n).getD (j + 1) 0 ∈ stB fit n := by
      rw [hB]; exact pL_mem.2 ⟨j, by have : j + 1 < (stK fit n).length := hj; omega, rfl, hf⟩
    exact memI_at this
  · show (bstV fit n n).cost = (n : Int) - (stK fit n).length + 2 * (stB fit n).length
    rcases Nat.eq_zero_or_pos n with h | h
    · obtain ⟨e1, e2, e3⟩ := zero_n (fit := fit) h
      rw [e1, e2, e3, h]; rfl
    · rw [(best_is h).2, hB, brN_pL]
theorem told_ge {y : VSt} (h : Told fit n y) : (bstV fit n n).cost ≤ y.cost := by
  rcases Nat.eq_zero_or_pos n with h0 | h0
  · rw [(zero_n (fit := fit) h0).2.2, h.cost]
    have := h.k.len; omega
  · have h1 := best_le (fit := fit) h.k (h.pos h0)
    have h2 := pL_up (fit := fit) h.k (k := y.kept.length - 1) (.inl (by have := h.pos h0; omega))
    have h3 := sub_len (a := pL fit y.kept (y.kept.length - 1)) (b := y.breaks) (h2.1.imp fun h => Int.ne_of_lt h) fun x hx => by
      obtain ⟨j, g1, g2, g3⟩ := pL_mem.1 hx
      obtain ⟨i, g4, g5⟩ := h.gap j (by omega) g3
      rw [← g2, ← g5]; exact getD_mem 0 g4
    have h4 := brN_pL (fit := fit) y.kept (y.kept.length - 1)
    rw [h.cost]; omega
/-! suspects -/
def susL (fit : Nat → Nat → Bool) : Nat → List Int
  | 0 => []
  | k + 1 => if fit k (k + 1) = false then susL fit k ++ [((k + 1 : Nat) : Int)] else susL fit k
theorem sus_y {k : Nat} (h : fit k (k + 1) = false) : susL fit (k + 1) = susL fit k ++ [((k + 1 : Nat) : Int)] := by rw [susL, if_pos h]
theorem sus_n {k : Nat} (h : fit k (k + 1) = true) : susL fit (k + 1) = susL fit k := by rw [susL, if_neg (by rw [h]; decide)]
theorem sus_len (fit : Nat → Nat → Bool) : ∀ k, (susL fit k).length ≤ k
  | 0 => Nat.le_refl _
  | k + 1 => by
    have := sus_len fit k
    rw [susL]; split
    · rw [List.length_append]; simp only [List.length_cons, List.length_nil]; omega
    · omega
theorem sus_brN {K : List Int} : ∀ {k : Nat}, (∀ j, j ≤ k → K.getD j 0 = (j : Int)) → ((susL fit k).length : Int) = brN fit K k
  | 0, _ => rfl
  | k + 1, h => by
    have ih := sus_brN (k := k) (fun j hj => h j (by omega))
    rw [brN, h k (by omega), h (k + 1) (by omega), Int.toNat_natCast, Int.toNat_natCast]
    cases hf : fit k (k + 1) with
    | false => rw [sus_y hf, List.length_append, brk_f]; simp only [List.length_cons, List.length_nil]; omega
    | true => rw [sus_n hf, brk_t]; omega
def idK (n : Nat) : List Int := (List.range n).map fun (i : Nat) => (i : Int)
theorem idK_len (n : Nat) : (idK n).length = n := by simp [idK]
theorem idK_at {i : Nat} (h : i < n) : (idK n).getD i 0 = (i : Int) := by simp [idK, List.getD, h]
theorem idK_ris : Ris n (idK n) := ⟨fun j hj => by rw [idK_len] at hj; rw [idK_at hj]; omega, fun j hj => by rw [idK_len] at hj; rw [idK_at (by omega), idK_at hj]; omega⟩
/-- What the law asks of suspects. -/
structure SusL (fit : Nat → Nat → Bool) (n : Nat) : Prop where
  hi : (bstV fit n n).cost ≤ 2 * ((susL fit (n - 1)).length : Int)
  lo : 0 ≤ (bstV fit n n).cost
  all : (susL fit (n - 1)).length = 0 → (stK fit n).length = n
  none_ : (bstV fit n n).cost = 0 → (susL fit (n - 1)).length = 0
theorem susl : SusL fit n := by
  have hlo := (bst_bd (fit := fit) (n := n) n (Nat.le_refl _)).1
  rcases Nat.eq_zero_or_pos n with h | h
  · obtain ⟨e1, e2, e3⟩ := zero_n (fit := fit) h
    refine ⟨by rw [e3]; omega, hlo, fun _ => by rw [e1, h]; rfl, fun _ => by rw [h]; rfl⟩
  · have h1 := best_le (fit := fit) (idK_ris (n := n)) (by rw [idK_len]; exact h)
    rw [idK_len, ← sus_brN (k := n - 1) (fun j hj => idK_at (by omega))] at h1
    obtain ⟨h2, h3⟩ := best_is (fit := fit) (n := n) h
    have hR := stK_ris (fit := fit) (n := n)
    have hl := hR.len
    have hb := brN_nn (fit := fit) (stK fit n) ((stK fit n).length - 1)
    have hz : (bstV fit n n).cost = 0 → (stK fit n).length = n := fun e => by omega
    refine ⟨by omega, hlo, fun e => hz (by omega), fun e => ?_⟩
    have e1 := hz e
    have e2 : brN fit (stK fit n) (n - 1) = 0 := by rw [e1] at hb h3; omega
    rw [← sus_brN (k := n - 1) (fun j hj => ?_)] at e2
    · omega
    · have a := hR.lo j (by omega)
      have b := hR.hi (n - 1 - j) (by omega)
      rw [e1, show n - 1 - (n - 1 - j) = j by omega] at b
      omega
/-! what is surely misread -/
theorem sure_mem {i : Nat} : ∀ {m : Nat}, (i : Int) ∈ sureL fit n m ↔ i < m ∧ (bstV fit n n).cost < fC fit i + rC fit n i
  | 0 => by simp [sureL]
  | m + 1 => by
    have ih := sure_mem (i := i) (m := m)
    rw [sureL]
    split
    · next h =>
      rw [List.mem_append, ih, List.mem_singleton]
      constructor
      · rintro (⟨h1, h2⟩ | h1)
        · exact ⟨by omega, h2⟩
        · obtain rfl : i = m := by omega
          exact ⟨by omega, h⟩
      · rintro ⟨h1, h2⟩
        rcases Nat.lt_or_ge i m with h3 | h3
        · exact .inl ⟨h3, h2⟩
        · exact .inr (by omega)
    · next h =>
      rw [ih]
      constructor
      · rintro ⟨h1, h2⟩; exact ⟨by omega, h2⟩
      · rintro ⟨h1, h2⟩
        rcases Nat.lt_or_ge i m with h3 | h3
        · exact ⟨h3, h2⟩
        · obtain rfl : i = m := by omega
          exact absurd h2 h
theorem kept_not_sure {i : Nat} (hk : (i : Int) ∈ stK fit n) : (i : Int) ∉ sureL fit n n := fun hs => by
  obtain ⟨h1, h2⟩ := sure_mem.1 hs
  obtain ⟨j, hj, e⟩ := memI_at hk
  have h3 := with_le (fit := fit) (stK_ris (fit := fit) (n := n)) hj
  rw [e, Int.toNat_natCast] at h3
  have h4 := (best_is (fit := fit) (n := n) (by omega)).2
  omega
/-! a story in which some reading is not kept -/
def mapN (g : Nat → Nat) (K : List Int) : List Int := K.map fun x => ((g x.toNat : Nat) : Int)
theorem mapN_len (g : Nat → Nat) (K : List Int) : (mapN g K).length = K.length := by simp [mapN]
theorem mapN_at {g : Nat → Nat} {K : List Int} {j : Nat} (h : j < K.length) : (mapN g K).getD j 0 = ((g (K.getD j 0).toNat : Nat) : Int) := by simp [mapN, List.getD, h]
theorem brN_map {fit' : Nat → Nat → Bool} {g : Nat → Nat} {K : List Int} (hf : ∀ j, j + 1 < K.length → fit' (g (K.getD j 0).toNat) (g (K.getD (j + 1) 0).toNat) = fit (K.getD j 0).toNat (K.getD (j + 1) 0).toNat) : ∀ k, k + 1 ≤ K.length ∨ k = 0 → brN fit' (mapN g K) k = brN fit K k
  | 0, _ => rfl
  | k + 1, hk => by
    rw [brN, brN, brN_map hf k (.inl (by omega)), mapN_at (by omega), mapN_at (by omega), Int.toNat_natCast, Int.toNat_natCast, hf k (by omega)]
def dnI (w i : Nat) : Nat := if i < w then i else i - 1
theorem up_dn {w i : Nat} (h : i ≠ w) : upI w (dnI w i) = i := by
  unfold upI dnI
  by_cases h1 : i < w
  · rw [if_pos h1, if_pos h1]
  · rw [if_neg h1, if_neg (by omega)]; omega
/-- What the law asks of a cost without a reading. -/
theorem without_law {s : List Int} {l : List VP} {f : VP} {w : Nat} (hw : w < l.length) (h2 : l.length ≠ 1) :
    (bstV (fitsF s l f) l.length l.length).cost ≤ (btT (fitsF s l f) l.length (w : Int) l.length).2.cost ∧ ((w : Int) ∉ stK (fitsF s l f) l.length → (btT (fitsF s l f) l.length (w : Int) l.length).2.cost = (bstV (fitsF s l f) l.length l.length).cost) := by
  have hc := wt_c (s := s) (f := f) hw h2
  have hl := cutL_len hw
  rw [hl] at hc
  have hfit : ∀ i k, fitsF s (cutL l w) f i k = fitsF s l f (upI w i) (upI w k) := fun i k => fits_cut hw i k
  have hn : 0 < l.length - 1 := by omega
  obtain ⟨p1, p2⟩ := best_is (fit := fitsF s (cutL l w) f) (n := l.length - 1) hn
  have hR := stK_ris (fit := fitsF s (cutL l w) f) (n := l.length - 1)
  have hge : (bstV (fitsF s l f) l.length l.length).cost ≤ (btT (fitsF s l f) l.length (w : Int) l.length).2.cost := by
    generalize stK (fitsF s (cutL l w) f) (l.length - 1) = K' at *
    have hR2 : Ris l.length (mapN (upI w) K') := by
      refine ⟨fun j hj => ?_, fun j hj => ?_⟩
      · rw [mapN_len] at hj
        have h3 := hR.bd j hj
        have h4 := upI_le (w := w) (i := (K'.getD j 0).toNat) (m := l.length) (by omega)
        rw [mapN_at hj]; omega
      · rw [mapN_len] at hj
        have h3 := hR.bd j (by omega)
        have h4 := hR.up j hj
        have h5 := upI_lt (w := w) (i := (K'.getD j 0).toNat) (k := (K'.getD (j + 1) 0).toNat) (by omega)
        rw [mapN_at (by omega), mapN_at hj]; omega
    have h6 := best_le (fit := fitsF s l f) hR2 (by rw [mapN_len]; exact p1)
    rw [mapN_len, brN_map (fit := fitsF s (cutL l w) f) (fun j hj => (hfit _ _).symm) (K'.length - 1) (.inl (by omega))] at h6
    omega
  refine ⟨hge, fun hnot => ?_⟩
  obtain ⟨q1, q2⟩ := best_is (fit := fitsF s l f) (n := l.length) (by omega)
  have hS := stK_ris (fit := fitsF s l f) (n := l.length)
  generalize stK (fitsF s l f) l.length = K at *
  have hne : ∀ j, j < K.length → (K.getD j 0).toNat ≠ w := fun j hj e => hnot (by
    have h3 := (hS.bd j hj).1
    have : (w : Int) = K.getD j 0 := by omega
    rw [this]; exact getD_mem 0 hj)
  have hR2 : Ris (l.length - 1) (mapN (dnI w) K) := by
    refine ⟨fun j hj => ?_, fun j hj => ?_⟩
    · rw [mapN_len] at hj
      have h3 := hS.bd j hj
      have h4 := hne j hj
      rw [mapN_at hj]
      unfold dnI; split <;> omega
    · rw [mapN_len] at hj
      have h3 := hS.bd j (by omega)
      have h4 := hS.up j hj
      have h5 := hne j (by omega)
      have h6 := hne (j + 1) hj
      rw [mapN_at (by omega), mapN_at hj]
      unfold dnI; split <;> split <;> omega
  have h7 := best_le (fit := fitsF s (cutL l w) f) hR2 (by rw [mapN_len]; exact q1)
  rw [mapN_len, brN_map (fit := fitsF s l f) (fun j hj => by rw [hfit, up_dn (hne j (by omega)), up_dn (hne (j + 1) hj)]) (K.length - 1) (.inl (by omega))] at h7
  omega
/-! how much a story tells of -/
def cntsV (z : Int) (f a b : VP) : Int × Int := (lowF f a b + (b.b - a.b - lowF f a b) % z, highF f a b - (highF f a b - (b.b - a.b)) % z)
theorem cnts_le {z : Int} {f a b : VP} (hz : 0 < z) (h : fitV z f a b = true) : (cntsV z f a b).1 ≤ (cntsV z f a b).2 := by
  unfold fitV at h
  rw [decide_eq_true_iff] at h
  unfold cntsV
  dsimp only
  generalize lowF f a b = lo at *
  generalize highF f a b = hi at *
  generalize b.b - a.b = g at *
  have h1 := Int.emod_add_mul_ediv (g - lo) z
  have h2 := Int.emod_add_mul_ediv (hi - g) z
  have h3 : -((g - lo) / z) ≤ (hi - g) / z := by
    refine Int.le_ediv_of_mul_le hz ?_
    rw [Int.neg_mul, Int.mul_comm]; omega
  have h4 : z * (-((g - lo) / z)) ≤ z * ((hi - g) / z) := Int.mul_le_mul_of_nonneg_left h3 (by omega)
  rw [Int.mul_neg] at h4
  omega
end Go.W

/- How a story is checked, step by step. -/
set_option linter.unusedVariables false
set_option linter.unusedSimpArgs false
namespace Go.W
open Go Go.Sx
variable {fit : Nat → Nat → Bool} {n : Nat} {K : List Int} {k : Nat}
noncomputable def risB (n : Nat) (K : List Int) : Bool := @decide (Ris n K) (Classical.propDecidable _)
theorem risB_t : risB n K = true ↔ Ris n K := @decide_eq_true_iff _ (Classical.propDecidable _)
theorem risB_f (h : ¬ Ris n K) : false = risB n K := by
  cases e : risB n K with
  | false => rfl
  | true => exact absurd (risB_t.1 e) h
def RisTo (n : Nat) (K : List Int) (k : Nat) : Prop := ∀ j, j < k → (0 ≤ K.getD j 0 ∧ K.getD j 0 < (n : Int)) ∧ (0 < j → K.getD (j - 1) 0 < K.getD j 0)
theorem RisTo.zero : RisTo n K 0 := fun j hj => by omega
theorem RisTo.snoc (h : RisTo n K k) (h1 : 0 ≤ K.getD k 0 ∧ K.getD k 0 ≤ (n : Int) - 1) (h2 : ¬ (0 < k ∧ K.getD k 0 ≤ K.getD (k - 1) 0)) : RisTo n K (k + 1) := fun j hj => by
  rcases Nat.lt_or_ge j k with h3 | h3
  · exact h j h3
  · obtain rfl : j = k := by omega
    exact ⟨by omega, fun h0 => by have : ¬ K.getD j 0 ≤ K.getD (j - 1) 0 := fun h9 => h2 ⟨h0, h9⟩; omega⟩
theorem ris_yes (h : RisTo n K k) (hk : ¬ k < K.length) : true = risB n K := by
  symm; rw [risB_t]
  exact ⟨fun j hj => (h j (by omega)).1, fun j hj => by have := (h (j + 1) (by omega)).2 (by omega); rwa [Nat.add_sub_cancel] at this⟩
theorem ris_no1 (hk : k < K.length) (h : ¬ (0 ≤ K.getD k 0 ∧ K.getD k 0 ≤ (n : Int) - 1)) : false = risB n K := risB_f fun h9 => h (by have := h9.bd k hk; omega)
theorem ris_no2 (hk : k < K.length) (h0 : 0 < k) (h : K.getD k 0 ≤ K.getD (k - 1) 0) : false = risB n K := risB_f fun h9 => by
  have := h9.up (k - 1) (by omega)
  rw [show k - 1 + 1 = k by omega] at this
  omega
theorem Ris.nat (h : Ris n K) (hk : k + 1 < K.length) : ∃ a b : Nat, K.getD k 0 = (a : Int) ∧ K.getD (k + 1) 0 = (b : Int) ∧ a < b ∧ b < n := by
  have h1 := h.bd k (by omega)
  have h2 := h.bd (k + 1) hk
  have h3 := h.up k hk
  exact ⟨(K.getD k 0).toNat, (K.getD (k + 1) 0).toNat, by omega, by omega, by omega, by omega⟩
/-! what is in a list -/
theorem hasB {l : List Int} {n : Int} : (decide (0 ≤ idxF (fun x => decide (n = x)) l)) = l.contains n := by
  rw [← any_idx]
  rw [Bool.eq_iff_iff, List.any_eq_true, List.contains_iff_mem]
  constructor
  · rintro ⟨x, hx, h⟩
    rw [decide_eq_true_iff] at h; subst h; exact hx
  · intro h; exact ⟨n, h, by simp⟩
theorem has_tt {s : List Int} {n : Int} {k : Nat} (hk : k < s.length) (h : s.getD k 0 = n) : true = s.contains n := by
  symm; rw [List.contains_iff_mem]; rw [← h]; exact getD_mem 0 hk
theorem has_ff {s : List Int} {n : Int} {k : Nat} (hk : ¬ k < s.length) (hall : ∀ i, i < k → s.getD i 0 ≠ n) : false = s.contains n := by
  symm; rw [← Bool.not_eq_true, List.contains_iff_mem]; intro h
  obtain ⟨i, hi, he⟩ := List.getElem_of_mem h
  refine hall i (by omega) ?_
  simp [List.getD, hi, he]
theorem idx_cases (K : List Int) (b : Int) : (idxF (fun x => decide (b = x)) K = -1 ∧ ∀ i, i < K.length → K.getD i 0 ≠ b) ∨ ∃ i : Nat, i < K.length ∧ idxF (fun x => decide (b = x)) K = (i : Int) ∧ K.getD i 0 = b := by
  unfold idxF
  cases h : K.findIdx? (fun x => decide (b = x)) with
  | none =>
    refine .inl ⟨rfl, fun i hi e => ?_⟩
    rw [List.findIdx?_eq_none_iff] at h
    have := h _ (getD_mem (0 : Int) hi)
    rw [e] at this; simp at this
  | some i =>
    rw [List.findIdx?_eq_some_iff_getElem] at h
    obtain ⟨hi, h1, _⟩ := h
    refine .inr ⟨i, hi, rfl, ?_⟩
    rw [decide_eq_true_iff] at h1
    simp [List.getD, hi, h1]
def MemK (y : VSt) (i : Nat) : Prop := ∃ j, j + 1 < y.kept.length ∧ y.kept.getD (j + 1) 0 = y.breaks.getD i 0
theorem mem_idx {y : VSt} {i : Nat} (h : ¬ idxF (fun x => decide (y.breaks.getD i 0 = x)) y.kept < 1) : MemK y i := by
  rcases idx_cases y.kept (y.breaks.getD i 0) with ⟨h1, _⟩ | ⟨j, h1, h2, h3⟩
  · omega
  · exact ⟨j - 1, by omega, by rw [show j - 1 + 1 = j by omega]; exact h3⟩
theorem mem_no {y : VSt} {i : Nat} (hR : Ris n y.kept) (h : idxF (fun x => decide (y.breaks.getD i 0 = x)) y.kept < 1) : ¬ MemK y i := fun ⟨q, h4, h5⟩ => by
  rcases idx_cases y.kept (y.breaks.getD i 0) with ⟨_, h2⟩ | ⟨j, h1, h2, h3⟩
  · exact h2 _ h4 h5
  · obtain rfl : j = 0 := by omega
    have := hR.lt (i := 0) (j := q + 1) (by omega) h4
    omega
theorem mem_has {y : VSt} {i : Nat} (h : y.kept.contains (y.breaks.getD i 0) = true) (h1 : ¬ y.breaks.getD i 0 = y.kept.getD 0 0) : MemK y i := by
  rw [List.contains_iff_mem] at h
  obtain ⟨j, hj, e⟩ := memI_at h
  have : j ≠ 0 := fun e0 => by subst e0; exact h1 e.symm
  exact ⟨j - 1, by omega, by rw [show j - 1 + 1 = j by omega]; exact e⟩
theorem mem_hasn {y : VSt} {i : Nat} (h : y.kept.contains (y.breaks.getD i 0) = false) : ¬ MemK y i := fun ⟨q, h4, h5⟩ => by
  rw [← Bool.not_eq_true, List.contains_iff_mem] at h
  exact h (by rw [← h5]; exact getD_mem 0 h4)
theorem mem_fst {y : VSt} {i : Nat} (hR : Ris n y.kept) (h : y.breaks.getD i 0 = y.kept.getD 0 0) : ¬ MemK y i := fun ⟨q, h4, h5⟩ => by
  have := hR.lt (i := 0) (j := q + 1) (by omega) h4
  omega
/-! told or not -/
noncomputable def toldB (fit : Nat → Nat → Bool) (n : Nat) (y : VSt) : Bool := @decide (Told fit n y) (Classical.propDecidable _)
theorem told_t {y : VSt} : toldB fit n y = true ↔ Told fit n y := @decide_eq_true_iff _ (Classical.propDecidable _)
theorem told_f {y : VSt} (h : ¬ Told fit n y) : false = toldB fit n y := by
  cases e : toldB fit n y with
  | false => rfl
  | true => exact absurd (told_t.1 e) h
theorem told_n1 {y : VSt} (h : risB n y.kept = false) : false = toldB fit n y := told_f fun h9 => by rw [risB_t.2 h9.k] at h; cases h
theorem told_n2 {y : VSt} (h : risB n y.breaks = false) : false = toldB fit n y := told_f fun h9 => by rw [risB_t.2 h9.b] at h; cases h
theorem told_n3 {y : VSt} (h : 0 < n) (h1 : y.kept.length = 0) : false = toldB fit n y := told_f fun h9 => by have := h9.pos h; omega
theorem told_n4 {y : VSt} (hk : k < y.breaks.length) (h : ¬ MemK y k) : false = toldB fit n y := told_f fun h9 => h (h9.mem k hk)
theorem told_n5 {y : VSt} {a b : Nat} (hk : k + 1 < y.kept.length) (h1 : y.kept.getD k 0 = (a : Int)) (h2 : y.kept.getD (k + 1) 0 = (b : Int)) (hf : fit a b = false) (hn : y.breaks.contains (y.kept.getD (k + 1) 0) = false) : false = toldB fit n y := told_f fun h9 => by
  obtain ⟨i, h3, h4⟩ := h9.gap k hk (by rw [h1, h2]; exact hf)
  rw [← Bool.not_eq_true, List.contains_iff_mem] at hn
  exact hn (by rw [← h4]; exact getD_mem 0 h3)
def GapK (fit : Nat → Nat → Bool) (y : VSt) (j : Nat) : Prop := fit (y.kept.getD j 0).toNat (y.kept.getD (j + 1) 0).toNat = true ∨ y.breaks.contains (y.kept.getD (j + 1) 0) = true
theorem gap_1 {y : VSt} {a b : Nat} (h1 : y.kept.getD k 0 = (a : Int)) (h2 : y.kept.getD (k + 1) 0 = (b : Int)) (hf : fit a b = true) : GapK fit y k := .inl (by rw [h1, h2]; exact hf)
theorem gap_2 {y : VSt} (h : y.breaks.contains (y.kept.getD (k + 1) 0) = true) : GapK fit y k := .inr h
theorem told_end {y : VSt} {c : Int} (hk : Ris n y.kept) (hb : Ris n y.breaks) (hp : 0 < n → 0 < y.kept.length) (hm : ∀ i, i < y.breaks.length → MemK y i) (hg : ∀ j, j + 1 < y.kept.length → GapK fit y j) (hc : c = (n : Int) - y.kept.length + 2 * y.breaks.length) : decide (y.cost = c) = toldB fit n y := by
  by_cases e : y.cost = c
  · rw [decide_eq_true e]; symm; rw [told_t]
    refine ⟨hk, hb, hp, hm, fun j hj hf => ?_, by rw [e, hc]⟩
    rcases hg j hj with h | h
    · rw [h] at hf; cases hf
    · rw [List.contains_iff_mem] at h; exact memI_at h
  · rw [decide_eq_false e]
    exact told_f fun h9 => e (by rw [hc]; exact h9.cost)
theorem told_gap {y : VSt} (h : Told fit n y) {a b : Nat} (hk : k + 1 < y.kept.length) (h1 : y.kept.getD k 0 = (a : Int)) (h2 : y.kept.getD (k + 1) 0 = (b : Int)) (hn : y.breaks.contains (y.kept.getD (k + 1) 0) = false) : fit a b = true := by
  cases hf : fit a b with
  | true => rfl
  | false => exact absurd (told_t.2 h) (by rw [← told_n5 (n := n) hk h1 h2 hf hn]; decide)
/-! a story that is drawn: its list of kept readings may begin one further -/
def dropB (b : Bool) (l : List Int) : List Int := if b = true then l.drop 1 else l
def backB (b : Bool) : Nat := if b = true then 1 else 0
/-- How much a story tells of: bounds. -/
theorem cnts_bd {s : List Int} {f a b : VP} (hz : 0 < size s ∧ size s ≤ 1000000000000) (hf : validFlow f = true) (ha : 0 ≤ a.a ∧ a.a ≤ 100000) (hb : 0 ≤ b.a ∧ b.a ≤ 100000) : (-2000000000000 ≤ (cntsV (size s) f a b).1 ∧ (cntsV (size s) f a b).1 ≤ 2000000000000) ∧ -2000000000000 ≤ (cntsV (size s) f a b).2 ∧ (cntsV (size s) f a b).2 ≤ 2000000000000 := by
  have h1 := low_bd hf ha hb
  have h2 := high_bd hf ha hb
  have h3 := Int.emod_nonneg (b.b - a.b - lowF f a b) (show size s ≠ 0 by omega)
  have h4 := Int.emod_lt_of_pos (b.b - a.b - lowF f a b) hz.1
  have h5 := Int.emod_nonneg (highF f a b - (b.b - a.b)) (show size s ≠ 0 by omega)
  have h6 := Int.emod_lt_of_pos (highF f a b - (b.b - a.b)) hz.1
  unfold cntsV
  dsimp only
  omega
structure TtlS where
  k : Nat
  lo : Int
  hi : Int
end Go.W

/- A rest is at most the number. -/
namespace Go.W
open Go Go.Sx
theorem mod_le {z n : Int} (hz : 0 ≤ z) (hn : 0 < n) : z % n ≤ z := by
  rcases Int.lt_or_le z n with h | h
  · rw [Int.emod_eq_of_lt hz h]; exact Int.le_refl _
  · have := Int.emod_lt_of_pos z hn; omega
end Go.W

/- Two lists of totals made one, in plain numbers. -/
set_option linter.unusedVariables false
set_option linter.unusedSimpArgs false
namespace Go.W
open Go Go.Sx
/-- The merged list, where no day is told twice with two counts. -/
def mg : List VP → List VP → List VP
  | [], t => t
  | x :: s, [] => x :: s
  | x :: s, y :: t => if x.a = y.a then mg (x :: s) t else if y.a < x.a then y :: mg (x :: s) t else x :: mg s (y :: t)
termination_by s t => s.length + t.length
/-- Whether a day is told with two counts. -/
def cf : List VP → List VP → Bool
  | [], _ => false
  | _ :: _, [] => false
  | x :: s, y :: t => if x.a = y.a then (decide (x.b ≠ y.b) || cf (x :: s) t) else if y.a < x.a then cf (x :: s) t else cf s (y :: t)
termination_by s t => s.length + t.length
theorem dropP {s : List VP} {k : Nat} (h : k < s.length) : s.drop k = s.getD k zP :: s.drop (k + 1) := by
  rw [List.drop_eq_getElem_cons h]; simp [List.getD, h]
variable {s t : List VP} {i j : Nat}
theorem mg_e (hi : i < s.length) (hj : j < t.length) (h : (s.getD i zP).a = (t.getD j zP).a) : mg (s.drop i) (t.drop j) = mg (s.drop i) (t.drop (j + 1)) := by
  rw [dropP hi, dropP hj, mg, if_pos h]
theorem cf_e (hi : i < s.length) (hj : j < t.length) (h : (s.getD i zP).a = (t.getD j zP).a) (h2 : (s.getD i zP).b = (t.getD j zP).b) : cf (s.drop i) (t.drop j) = cf (s.drop i) (t.drop (j + 1)) := by
  rw [dropP hi, dropP hj, cf, if_pos h, decide_eq_false (by simpa using h2), Bool.false_or]
/-- No count is less than the one ahead of it. -/
def Upb (l : List VP) (k : Nat) : Prop := ∀ i, i + 1 < k → i + 1 < l.length → ¬ (l.getD (i + 1) zP).b < (l.getD i zP).b
theorem Upb.snoc {l : List VP} {k : Nat} (h : Upb l (k + 1)) (hk : ¬ (l.getD (k + 1) zP).b < (l.getD k zP).b) : Upb l (k + 1 + 1) := fun i h1 h2 => by
  rcases Nat.lt_or_ge i k with h3 | h3
  · exact h i (by omega) h2
  · obtain rfl : i = k := by omega
    exact hk
/-- How far two lists have been gone through. -/
structure MSt where
  i : Nat
  j : Nat
  o : List VP
  A : Option Addr
  c : Nat
/-- What holds in the merging loop. -/
structure MI (s t : List VP) (q : MSt) : Prop where
  li : q.i ≤ s.length
  lj : q.j ≤ t.length
  mg : q.o ++ mg (s.drop q.i) (t.drop q.j) = mg s t
  cf : cf (s.drop q.i) (t.drop q.j) = cf s t
  len : q.o.length ≤ q.i + q.j
theorem MI.zero {A c} : MI s t ⟨0, 0, [], A, c⟩ := ⟨Nat.zero_le _, Nat.zero_le _, rfl, rfl, Nat.le_refl _⟩
theorem MI.skip {q : MSt} (h : MI s t q) (hi : q.i < s.length) (hj : q.j < t.length) (h1 : (s.getD q.i zP).a = (t.getD q.j zP).a) (h2 : (s.getD q.i zP).b = (t.getD q.j zP).b) {A c} : MI s t ⟨q.i, q.j + 1, q.o, A, c⟩ :=
  ⟨h.li, hj, by dsimp only; rw [← mg_e hi hj h1]; exact h.mg, by dsimp only; rw [← cf_e hi hj h1 h2]; exact h.cf, by have := h.len; dsimp only; omega⟩
theorem MI.fin {q : MSt} (h : MI s t q) (hi : s.length ≤ q.i) (hj : t.length ≤ q.j) : q.o = W.mg s t ∧ W.cf s t = false := by
  have h1 := h.mg
  have h2 := h.cf
  rw [List.drop_of_length_le hi, List.drop_of_length_le hj] at h1 h2
  rw [W.mg, List.append_nil] at h1
  rw [W.cf] at h2
  exact ⟨h1, h2.symm⟩
end Go.W

/- Totals: shares, counts by day, lists that are parted and made one, totals of a log that is drawn. -/
set_option linter.unusedVariables false
set_option linter.unusedSimpArgs false
namespace Go.W
open Go Go.Sx
/-! ### Shares -/
/-! ### Counts by day -/
/-! ### Lists that are parted -/
def PtP (x : VP) : Prop := (0 ≤ x.a ∧ x.a ≤ 100000) ∧ 0 ≤ x.b ∧ x.b ≤ 1000000000000
theorem getP {l : List VP} {i : Nat} (h : i < l.length) : l[i] = l.getD i zP := by simp [List.getD, h]
theorem Tot.pt {l : List VP} (h : Tot l) : ∀ x ∈ l, PtP x := fun x hx => by
  obtain ⟨i, hi, rfl⟩ := List.getElem_of_mem hx
  rw [getP hi]
  exact ⟨h.day i hi, h.cnt i hi⟩
/-! ### Totals of a log -/
/-! ### A log that is drawn -/
structure LgP (z : Int) (l : List VP) (r : VP) : Prop where
  day : ∀ i, i < l.length → 0 ≤ (l.getD i zP).a ∧ (l.getD i zP).a < r.a
  val : ∀ i, i < l.length → 0 ≤ (l.getD i zP).b ∧ (l.getD i zP).b < z
  up : ∀ i, i + 1 < l.length → (l.getD i zP).a < (l.getD (i + 1) zP).a
  ra : 0 ≤ r.a ∧ r.a ≤ 4 + 4 * (l.length : Int)
  rb : 0 ≤ r.b ∧ r.b < z
theorem LgP.nil {z : Int} {r : VP} (h1 : 0 ≤ r.a ∧ r.a ≤ 4) (h2 : 0 ≤ r.b ∧ r.b < z) : LgP z [] r :=
  ⟨fun i hi => by simp at hi, fun i hi => by simp at hi, fun i hi => by simp at hi, by simp; omega, h2⟩
theorem snocP {l : List VP} {x : VP} {i : Nat} (hi : i < l.length + 1) : (l ++ [x]).getD i zP = if i = l.length then x else l.getD i zP := by
  by_cases e : i = l.length
  · subst e; rw [if_pos rfl]; simp [List.getD]
  · rw [if_neg e]; simp only [List.getD]; rw [List.getElem?_append_left (by omega)]
theorem LgP.next {z : Int} {l : List VP} {r x q : VP} (h : LgP z l r) (hx : x.a = r.a) (hb : 0 ≤ x.b ∧ x.b < z) (h1 : r.a + 1 ≤ q.a ∧ q.a ≤ r.a + 4) (h2 : 0 ≤ q.b ∧ q.b < z) : LgP z (l ++ [x]) q := by
  have hl : (l ++ [x]).length = l.length + 1 := by simp
  have hra := h.ra
  refine ⟨fun i hi => ?_, fun i hi => ?_, fun i hi => ?_, by rw [hl]; push_cast; omega, h2⟩
  · rw [hl] at hi
    rw [snocP hi]
    split
    · omega
    · have := h.day i (by omega); omega
  · rw [hl] at hi
    rw [snocP hi]
    split
    · exact hb
    · exact h.val i (by omega)
  · rw [hl] at hi
    rw [snocP (by omega), snocP hi, if_neg (by omega)]
    split
    · have := h.day i (by omega); omega
    · exact h.up i (by omega)
theorem LgP.valid {s : List Int} {l : List VP} {r : VP} (h : LgP (size s) l r) (hs : validStack s = true) (hl : l.length ≤ 8) : validLog s l = true := by
  have hra := h.ra
  refine (vl_yes (k := l.length) hs (by omega) (Nat.lt_irrefl _) fun i hi => ?_).symm
  have h1 := h.day i hi
  have h2 := h.val i hi
  exact okr_t ⟨h1.1, by omega⟩ ⟨h2.1, by omega⟩ fun h0 => by
    have := h.up (i - 1) (by omega)
    rwa [show i - 1 + 1 = i by omega] at this
end Go.W
namespace Go.W
open Go Go.Sx
theorem mul_small {a b : Int} (h1 : 1 ≤ a ∧ a ≤ 4) (h2 : 0 ≤ b ∧ b ≤ 200) : 0 ≤ a * b ∧ a * b ≤ 800 := by
  have h3 : 0 ≤ a * b := Int.mul_nonneg (by omega) h2.1
  have h4 : a * b ≤ a * 200 := Int.mul_le_mul_of_nonneg_left h2.2 (by omega)
  omega
end Go.W
namespace Go.W
open Go Go.Sx
/-- A stack and a log as they are drawn. -/
def LgDr (s : List Int) (l : List VP) : Prop := validStack s = true ∧ Nums 255 s ∧ s.length ≤ 3 ∧ (0 < size s ∧ size s ≤ 1000) ∧ validLog s l = true ∧ l.length ≤ 8
theorem lg_a : Nums 255 ([10, 10] : List Int) ∧ validStack [10, 10] = true ∧ size [10, 10] = 100 := ⟨fun x hx => by simp at hx; omega, by decide, by decide⟩
theorem lg_b : Nums 255 ([10, 10, 10] : List Int) ∧ validStack [10, 10, 10] = true ∧ size [10, 10, 10] = 1000 := ⟨fun x hx => by simp at hx; omega, by decide, by decide⟩
theorem lg_c : Nums 255 ([6, 4, 3] : List Int) ∧ validStack [6, 4, 3] = true ∧ size [6, 4, 3] = 72 := ⟨fun x hx => by simp at hx; omega, by decide, by decide⟩
theorem LgP.dr {s : List Int} {l : List VP} {r : VP} {z : Int} (h : LgP z l r) (hz : size s = z) (hs : validStack s = true) (hn : Nums 255 s) (h3 : s.length ≤ 3) (hb : 0 < z ∧ z ≤ 1000) (hl : l.length ≤ 8) : LgDr s l := by
  subst hz
  exact ⟨hs, hn, h3, hb, h.valid hs hl, hl⟩
end Go.W

/- Strings; the library's builder of strings, walked. -/
set_option linter.unusedVariables false
set_option linter.unusedSimpArgs false
namespace Go.Sx
open Go Go.RowKit
variable {C : Cx} {env env' : Env} {m m' : List Ent} {o : Oper} {K : Env → List Ent → Prop}
/-- A string by its bytes. -/
abbrev sv (l : List UInt8) : Value := .string ⟨l.toArray⟩
def eU (b : UInt8) : List Value := [.int .u8 (b.toNat : Int)]
theorem eU_len : ∀ b, (eU b).length = 1 := fun _ => rfl
theorem sv_size (l : List UInt8) : (⟨l.toArray⟩ : ByteArray).size = l.length := by simp [ByteArray.size]
theorem strCells_sv (l : List UInt8) : Lib.strCells ⟨l.toArray⟩ = l.flatMap eU := by
  unfold Lib.strCells eU
  show l.map _ = _
  induction l with
  | nil => rfl
  | cons b l ih => rw [List.map_cons, List.flatMap_cons, ih]; rfl
theorem fr_addS {T x y T'} {l r : List UInt8} (ho : o.op = .binOp .add T x y T') (hx : ev env x = some (sv l)) (hy : ev env y = some (sv r)) (hb : l.length + r.length ≤ 9223372036854775807) : Free C o env m (sv (l ++ r)) := by
  intro a w hr _
  have h : (binOp .add T (sv l) (sv r)).run C.P w = .ok (sv (l ++ r)) w := by
    have := run_string_add_sum (P := C.P) w ⟨l.toArray⟩ ⟨r.toArray⟩ (by rw [sv_size, sv_size]; exact hb)
    rw [ByteArray.mk_append_mk] at this
    unfold binOp
    simp only [sv]
    exact this
  have hg : (eqGuard .add T x y (sv l) (sv r)).run C.P w = .ok () w := by unfold eqGuard; rfl
  simp only [execOp, ho, hr.ev hx, hr.ev hy, Sem.run_bind, hg, Result.andThen_ok, h]; rfl
theorem beq_S (l r : List UInt8) : ((⟨l.toArray⟩ : ByteArray).toList == (⟨r.toArray⟩ : ByteArray).toList) = decide (l = r) := by
  rw [Bool.eq_iff_iff, decide_eq_true_iff, beq_iff_eq, ByteArray.toList_eq, ByteArray.toList_eq]
theorem fr_eqlS {T x y T'} {l r : List UInt8} (ho : o.op = .binOp .eql T x y T') (hx : ev env x = some (sv l)) (hy : ev env y = some (sv r)) : Free C o env m (.bool (decide (l = r))) := by
  intro a w hr _
  have h : (binOp .eql T (sv l) (sv r)).run C.P w = .ok (.bool (decide (l = r))) w := by
    show (Op.stringOp .eql ⟨l.toArray⟩ ⟨r.toArray⟩).run C.P w = _
    simp only [Op.stringOp, beq_S, Sem.run_pure]
  have hg : (eqGuard .eql T x y (sv l) (sv r)).run C.P w = .ok () w := by unfold eqGuard; rfl
  simp only [execOp, ho, hr.ev hx, hr.ev hy, Sem.run_bind, hg, Result.andThen_ok, h]; rfl
theorem fr_neqS {T x y T'} {l r : List UInt8} (ho : o.op = .binOp .neq T x y T') (hx : ev env x = some (sv l)) (hy : ev env y = some (sv r)) : Free C o env m (.bool (!decide (l = r))) := by
  intro a w hr _
  have h : (binOp .neq T (sv l) (sv r)).run C.P w = .ok (.bool (!decide (l = r))) w := by
    show (Op.stringOp .neq ⟨l.toArray⟩ ⟨r.toArray⟩).run C.P w = _
    simp only [Op.stringOp, beq_S, Sem.run_pure]
  have hg : (eqGuard .neq T x y (sv l) (sv r)).run C.P w = .ok () w := by unfold eqGuard; rfl
  simp only [execOp, ho, hr.ev hx, hr.ev hy, Sem.run_bind, hg, Result.andThen_ok, h]; rfl
theorem fr_lenS {x T} {l : List UInt8} (ho : o.op = .call { callee := .builtin .len, args := #[x], argTypes := #[T] }) (hx : ev env x = some (sv l)) (hT : C.P.underlying T = some .string) : Free C o env m (.int .i64 l.length) := by
  have := fr_len_str (m := m) ho hx hT
  rwa [sv_size] at this
/-! ### The builder -/
theorem blk_shape {i b : Nat} {cs : List Value} {T : TypeId} (hi : m[i]? = some (.blk b cs T)) {w : World} (hw : Holds C.base C.w0 m w) : w.shape? b = some (T, cs.length) := by
  have h := (hw.all _ (List.mem_of_getElem? hi)).2
  simp [World.shape?, h]
theorem fr_toUnsafe {S D x U} {i b : Nat} {cs : List Value} {T : TypeId} {sz : Nat} (hi : m[i]? = some (.blk b cs T)) (ho : o.op = .convert S D x) (hx : ev env x = some (.pointer (some ⟨b, 0, none⟩))) (hS : C.P.underlying S = some (.pointer U)) (hD : C.P.underlying D = some .unsafePointer) (hU : (C.P.info? U).map (·.size) = some sz) (h0 : Nat.blt 0 sz = true) (hl : Nat.blt 0 cs.length = true) : Free C o env m (.pointer (some ⟨b, 0, none⟩)) := by
  intro a w hr hw
  obtain ⟨j, hj, hjs⟩ := Option.map_eq_some_iff.1 hU
  have h0' : 0 < sz := by simpa using h0
  have hrun := Lib.run_to_unsafe (P := C.P) w (src := S) (dst := D) ⟨b, 0, none⟩ hS hD hj (by omega) (blk_shape hi hw) (by simpa using hl)
  simp only [execOp, ho, hr.ev hx, Sem.run_bind, hrun, Result.andThen_ok, Sem.run_pure]
theorem fr_fromUnsafe {S D x U} {i b : Nat} {cs : List Value} {T : TypeId} {sz : Nat} (hi : m[i]? = some (.blk b cs T)) (ho : o.op = .convert S D x) (hx : ev env x = some (.pointer (some ⟨b, 0, none⟩))) (hS : C.P.underlying S = some .unsafePointer) (hD : C.P.underlying D = some (.pointer U)) (hU : (C.P.info? U).map (·.size) = some sz) (hl : liesAt C.P C.P.depth T (cs.length / C.P.cellsOf T) 0 U 1 = true) : Free C o env m (.pointer (some ⟨b, 0, none⟩)) := by
  intro a w hr hw
  obtain ⟨j, hj, hjs⟩ := Option.map_eq_some_iff.1 hU
  have hrun := Lib.run_from_unsafe (P := C.P) w (src := S) (dst := D) ⟨b, 0, none⟩ hS hD hj (blk_shape hi hw) hl
  simp only [execOp, ho, hr.ev hx, Sem.run_bind, hrun, Result.andThen_ok, Sem.run_pure]
theorem fr_noEsc {fo f args at_ x v fn} (ho : o.op = .call { callee := .value fo, args := args, argTypes := at_ }) (hfo : ev env fo = some (.func (.func f) #[] #[])) (ha : args = #[x]) (hx : ev env x = some v) (hf : C.P.funcs[f]? = some fn) (hname : (fn.name == "runtime.NumGoroutine") = false) (hb : fn.body.isNone = true) (hn : Extern.findNext fn = none) (he : Extern.find fn = some Extern.AbiNoEscape.same) : Free C o env m v := by
  intro a w hr hw
  subst ha
  have hrun : (callFunc f #[v]).run C.P w = .ok (.value v) w := by
    rw [run_callFunc_extern hf hname hb hn he, Lib.run_noEscape]; rfl
  simp only [execOp, ho, resolve, hr.ev hfo, Deferred.ofValue, invoke]
  simp [hr.ev hx, hrun]
theorem fr_neq_ptr_same {T x y T' E ad} (ho : o.op = .binOp .neq T x y T') (hx : ev env x = some (.pointer (some ad))) (hy : ev env y = some (.pointer (some ad))) (hT : C.P.underlying T = some (.pointer E)) (hE : (C.P.info? E).isSome = true) : Free C o env m (.bool false) := by
  intro a w hr _
  obtain ⟨j, hj⟩ := Option.isSome_iff_exists.1 hE
  have h := Lib.run_neq_ptr_same (P := C.P) w ad hT hj
  have hg : (eqGuard .neq T x y (.pointer (some ad)) (.pointer (some ad))).run C.P w = .ok () w := by unfold eqGuard; rfl
  simp only [execOp, ho, hr.ev hx, hr.ev hy, Sem.run_bind, hg, Result.andThen_ok, h]; rfl
/-- append(bytes, a string's bytes). -/
theorem op_appendS {d : Nat} {i : Nat} {s x T TS E A n c} {xs l : List UInt8} (ho : o.op = .call { callee := .builtin .append, args := #[s, x], argTypes := #[T, TS] })
    (hs : ev env s = some (.slice A n c)) (hx : ev env x = some (sv l)) (hi : m[i]? = some (.row (.slice A n c) E 1 n (xs.flatMap eU))) (hT : C.P.underlying T = some (.slice E)) (hTS : C.P.underlying TS = some .string)
    (hz : (C.P.info? E).map (fun i => (i.size, i.bytes)) = some (1, 1)) (hzz : (C.P.info? E).bind (·.zero) = some (.int .u8 0))
    (hb : n + l.length ≤ 140737488355328) (hd : o.dst = some d) (hlt : Nat.blt d C.n = true)
    (h : ∀ A' c', K ((d, .slice A' (n + l.length) c') :: env) (m.set i (.row (.slice A' (n + l.length) c') E 1 (n + l.length) ((xs ++ l).flatMap eU)))) : Op1 C o env m K := by
  refine Op1.of_run hd hlt fun a w hrep hh => ?_
  have hmx : maxLen = 9223372036854775807 := rfl
  cases hq : C.P.info? E with
  | none => simp [hq] at hz
  | some inf =>
    simp only [hq, Option.map_some, Option.some.injEq, Prod.mk.injEq] at hz
    simp only [hq, Option.bind_some] at hzz
    obtain ⟨h1, h2⟩ := hz
    have hown := hh.all _ (List.mem_of_getElem? hi)
    have hown : w.ownsRow C.base E 1 (.slice A n c) n (xs.flatMap eU) := hown
    obtain ⟨hlt, hg'⟩ := List.getElem?_eq_some_iff.1 hi
    have hm : m = m.take i ++ .row (.slice A n c) E 1 n (xs.flatMap eU) :: m.drop (i + 1) := by rw [← hg', List.getElem_cons_drop, List.take_append_drop]
    have hset : ∀ e, m.set i e = m.take i ++ e :: m.drop (i + 1) := fun e => by rw [List.set_eq_take_append_cons_drop, if_pos hlt]
    have hsz := sv_size l
    obtain ⟨v', w', hrun, hown', hgr, _⟩ := Lib.run_append_own_string (P := C.P) w C.base T TS o.type E inf hT hTS hq hzz h1 h2 (.slice A n c) n (xs.flatMap eU) hown ⟨l.toArray⟩ (by rw [hsz]; omega) (by rw [hsz]; exact hb) hh.wle
    rw [hsz, strCells_sv, ← List.flatMap_append] at hown'
    have hv' : ∃ A' c', v' = .slice A' (n + l.length) c' := by
      rcases hown'.2 with ⟨rfl, hn0⟩ | ⟨g, cap, cur, rfl, _⟩
      · exact ⟨none, 0, by rw [hn0]⟩
      · exact ⟨_, cap, rfl⟩
    obtain ⟨A', c', rfl⟩ := hv'
    refine ⟨_, w', m.set i (.row (.slice A' (n + l.length) c') E 1 (n + l.length) ((xs ++ l).flatMap eU)), ?_, ?_, h A' c'⟩
    · simp [execOp, ho, resolve, invoke, builtin, hrep.ev hs, hrep.ev hx, hrun]
    · rw [hset]
      rw [hm] at hh
      refine hh.turn hgr hown' fun b hb' => ?_
      simp only [Ent.has] at hb' ⊢
      rcases hown'.2 with ⟨hv, hn0⟩ | ⟨g, cap, cur, hv, hgb, hgg, _⟩
      · simp at hv; obtain ⟨rfl, _⟩ := hv; simp [Value.ownBlock] at hb'
      · simp only [Value.slice.injEq] at hv
        obtain ⟨rfl, _⟩ := hv
        simp only [Value.ownBlock, Option.some.injEq] at hb' ⊢
        subst hb'
        rcases hown.2 with ⟨hv0, hn0⟩ | ⟨g0, cap0, cur0, hv0, hb0, hg0, hnc0, hcm0, hcs0, ht0⟩
        · right
          simp only [Value.slice.injEq] at hv0
          obtain ⟨rfl, rfl, rfl⟩ := hv0
          have hx0 : xs.flatMap eU = [] := List.eq_nil_of_length_eq_zero (by simpa using hown.1)
          obtain ⟨v2, w2, hrun2, hown2, _, _⟩ := Lib.run_append_own_string (P := C.P) w w.heap.size T TS o.type E inf hT hTS hq hzz h1 h2 (.slice none 0 0) 0 [] (World.ownsRow_nil w _ E 1) ⟨l.toArray⟩ (by rw [hsz]; omega) (by rw [hsz]; exact hb) (Nat.le_refl _)
          rw [hrun] at hrun2
          simp only [Result.ok.injEq] at hrun2
          obtain ⟨rfl, rfl⟩ := hrun2
          exact (World.ownsRow.lt hown2 g (by simp [Value.ownBlock])).1
        · simp only [Value.slice.injEq] at hv0
          obtain ⟨rfl, -, rfl⟩ := hv0
          simp only [Value.ownBlock, Option.some.injEq]
          by_cases hroom : n + l.length ≤ c
          · left
            have hroom2 := Lib.run_append_room_string (P := C.P) w T TS o.type E inf hT hTS hq h1 g0 n c cur0 hg0 ⟨l.toArray⟩ (by rw [hsz]; exact hroom) (by rw [hsz]; simp only [Nat.mul_one] at hcs0; omega)
            rw [hrun] at hroom2
            simp only [Result.ok.injEq, Value.slice.injEq, Option.some.injEq, Addr.mk.injEq] at hroom2
            exact hroom2.1.1.1.symm
          · right
            have hgrow := Lib.run_append_grow_string (P := C.P) w T TS o.type E inf _ hT hTS hq hzz ⟨g0, 0, none⟩ n c (xs.flatMap eU) (by rw [h1]; exact hown.1) (World.ownsRow.cells hown (g := g0) rfl) ⟨l.toArray⟩ (by rw [hsz]; omega) (by rw [hsz]; omega) (by
              rw [hsz, h2, Nat.mul_one]
              have := growslice_fits (old := c) (need := n + l.length) (bytes := 1) (by omega) (by omega)
              simpa using this)
            rw [hrun] at hgrow
            simp only [Result.ok.injEq, Value.slice.injEq, Option.some.injEq, Addr.mk.injEq] at hgrow
            have := hgrow.1.1.1
            omega
end Go.Sx

/- Parts of slices. -/
set_option linter.unusedVariables false
set_option linter.unusedSimpArgs false
namespace Go.Sx
open Go Go.RowKit
variable {C : Cx} {env : Env} {m : List Ent} {o : Oper}
variable {α : Type} {f : α → List Value} {sz : Nat} {A : Option Addr} {l : List α}
theorem flat_drop (hf : ∀ x, (f x).length = sz) (w : Nat) : (l.drop w).flatMap f = (l.flatMap f).drop (w * sz) := by
  induction l generalizing w with
  | nil => simp
  | cons x t ih =>
    cases w with
    | zero => simp
    | succ k =>
      rw [List.drop_succ_cons, List.flatMap_cons, ih, List.drop_append, hf, Nat.succ_mul, Nat.add_sub_cancel, show (f x).drop (k * sz + sz) = [] from List.drop_of_length_le (by rw [hf]; exact Nat.le_add_left _ _), List.nil_append]
theorem RdB.take {base : Nat} {w : World} {cs : List Value} (h : RdB base w A cs) (k : Nat) : RdB base w A (cs.take k) := fun j u hj => by
  refine h j u ?_
  rw [List.getElem?_take] at hj
  split at hj
  · exact hj
  · cases hj
theorem RdB.drop {base : Nat} {w : World} {cs : List Value} (h : RdB base w A cs) (k : Nat) : RdB base w (offA A k) (cs.drop k) := fun j u hj => by
  rw [List.getElem?_drop] at hj
  obtain ⟨ad, rfl, h1, h2⟩ := h _ u hj
  exact ⟨ad.add k, rfl, by rw [add_block]; exact h1, by rw [Addr.add_add]; exact h2⟩
theorem RdB.dropL {base : Nat} {w : World} {c : Nat} (h : RdB base w A (l.flatMap f)) (hf : ∀ x, (f x).length = sz) (hc : l.length ≤ c) (k : Nat) : RdB base w (cutA A c k sz) ((l.drop k).flatMap f) := by
  unfold cutA
  split
  · rw [List.drop_of_length_le (by omega)]; intro j u hj; simp at hj
  · rw [flat_drop hf]; exact h.drop _
theorem RdB.some {base : Nat} {w : World} (h : RdB base w A (l.flatMap f)) (hf : ∀ x, (f x).length = sz) (hp : 0 < sz) (hl : 0 < l.length) : ∃ ad, A = some ad := by
  cases l with
  | nil => simp at hl
  | cons x t =>
    have h1 : ((x :: t).flatMap f)[0]? = some ((f x)[0]'(by rw [hf]; exact hp)) := by
      rw [List.flatMap_cons, List.getElem?_append_left (by rw [hf]; exact hp), List.getElem?_eq_getElem (by rw [hf]; exact hp)]
    obtain ⟨ad, h2, _⟩ := h 0 _ h1
    exact ⟨ad, h2⟩
end Go.Sx

/- Room for a list: append of zeros to nil; cap; an array behind a slice; a slice of an array from a place on. -/
set_option linter.unusedSimpArgs false
set_option linter.unusedVariables false
namespace Go.Sx
open Go Go.RowKit
variable {C : Cx} {env : Env} {m : List Ent} {o : Oper} {K : Env → List Ent → Prop}
end Go.Sx

/- The rest of an array; what stands behind a drawn region. -/
set_option linter.unusedVariables false
set_option linter.unusedSimpArgs false
namespace Go.Sx
open Go Go.RowKit
variable {C : Cx} {env : Env} {m : List Ent} {o : Oper} {Q : Post}
theorem Reads.dropL {α : Type} {f : α → List Value} {sz c : Nat} {A : Option Addr} {l : List α} (h : Reads C m A (l.flatMap f)) (hf : ∀ x, (f x).length = sz) (hc : l.length ≤ c) (k : Nat) : Reads C m (cutA A c k sz) ((l.drop k).flatMap f) := by
  unfold cutA
  split
  · rw [List.drop_of_length_le (by omega)]
    unfold Reads
    intro w hw j u hj; simp at hj
  · have h2 : (l.drop k).flatMap f = (l.flatMap f).drop (k * sz) := by
      rcases Nat.lt_or_ge k l.length with h3 | h3
      · have h4 : ((l.take k).flatMap f).length = k * sz := by rw [flat_len hf, List.length_take]; congr 1; omega
        have h5 : l.flatMap f = (l.take k).flatMap f ++ (l.drop k).flatMap f := by rw [← List.flatMap_append, List.take_append_drop]
        rw [h5, ← h4, List.drop_left]
      · rw [List.drop_of_length_le h3, List.drop_of_length_le (by rw [flat_len hf]; exact Nat.mul_le_mul_right _ h3)]; rfl
    rw [h2]; exact h.seg _
end Go.Sx

/- Journals that are drawn, in plain numbers. -/
set_option linter.unusedVariables false
set_option linter.unusedSimpArgs false
namespace Go.W
open Go Go.Sx
/-- A device as it is drawn. -/
def DrDev (d : VDev) : Prop := OkDev d ∧ validDev d = true ∧ d.stack.length ≤ 4 ∧ 0 ≤ d.tickets ∧ d.tickets ≤ 19
/-- An act as it is drawn for a device with this stack. -/
def OkJ (s : List Int) (a : VAct) : Prop := ((a.kind = 1 ∨ a.kind = 2) ∧ 0 ≤ a.n ∧ a.n ≤ 19) ∨ (a.kind = 3 ∧ -1 ≤ a.n ∧ a.n ≤ 28 ∧ a.n ≤ size s - 1) ∨ ((a.kind = 4 ∨ a.kind = 5) ∧ a.n = 0)
theorem OkJ.valid {s : List Int} {a : VAct} (h : OkJ s a) : validAct a = true := by
  unfold validAct; rw [decide_eq_true_iff]; unfold OkJ at h; omega
theorem OkJ.ok {s : List Int} {a : VAct} (h : OkJ s a) : OkAct a := by
  unfold OkAct I64; unfold OkJ at h; omega
end Go.W
namespace Go.W
open Go Go.Sx
/-! batches -/
theorem getD_l {α : Type} {l t : List α} {d : α} {i : Nat} (h : i < l.length) : (l ++ t).getD i d = l.getD i d := by
  simp only [List.getD]; rw [List.getElem?_append_left h]
theorem getD_r {α : Type} {l t : List α} {d : α} {i n : Nat} (h : l.length = n) : (l ++ t).getD (n + i) d = t.getD i d := by
  subst h; simp only [List.getD]; rw [List.getElem?_append_right (by omega)]; simp
end Go.W
namespace Go.W
open Go Go.Sx
end Go.W

/- Stacks, devices and acts that are drawn; what the law of journals asks. -/
set_option linter.unusedVariables false
set_option linter.unusedSimpArgs false
namespace Go.W
open Go Go.Sx
/-- A stack in the making. -/
def StkP (l : List Int) : Prop := ∀ i, i < l.length → 2 ≤ l.getD i 0 ∧ l.getD i 0 ≤ 100
theorem StkP.nil : StkP [] := fun i hi => by simp at hi
theorem StkP.next {l : List Int} {x : Int} (h : StkP l) (hx : 2 ≤ x ∧ x ≤ 100) : StkP (l ++ [x]) := fun i hi => by
  rcases Nat.lt_or_ge i l.length with h1 | h1
  · rw [getD_l h1]; exact h i h1
  · have : i = l.length + 0 := by simp at hi; omega
    subst this; rw [getD_r rfl]; exact hx
theorem prod_pow : ∀ {l : List Int}, StkP l → 1 ≤ prod l ∧ prod l ≤ 100 ^ l.length
  | [], _ => by simp [prod]
  | b :: s, h => by
    have h1 := h 0 (by simp)
    have h2 := prod_pow (l := s) fun i hi => by have := h (i + 1) (by simp; omega); simpa using this
    have h1' : 2 ≤ b ∧ b ≤ 100 := by simpa using h1
    have h3 : 2 * 1 ≤ b * prod s := Int.mul_le_mul h1'.1 h2.1 (by omega) (by omega)
    have h4 : b * prod s ≤ 100 * 100 ^ s.length := Int.mul_le_mul h1'.2 h2.2 (by omega) (by omega)
    have h5 : (100 : Int) ^ (s.length + 1) = 100 * 100 ^ s.length := by rw [Int.pow_succ, Int.mul_comm]
    simp only [prod, List.length_cons, h5]; omega
/-- A stack as it is drawn. -/
def DrStk (l : List Int) : Prop := StkP l ∧ 1 ≤ l.length ∧ l.length ≤ 4
theorem DrStk.size {l : List Int} (h : DrStk l) : size l = prod l ∧ 1 ≤ prod l ∧ prod l ≤ 100000000 := by
  have h1 := prod_pow h.1
  have h2 : (100 : Int) ^ l.length ≤ 100000000 := by
    obtain ⟨h3, h4, h5⟩ := h
    have h6 : l.length = 1 ∨ l.length = 2 ∨ l.length = 3 ∨ l.length = 4 := by omega
    rcases h6 with h6 | h6 | h6 | h6 <;> rw [h6] <;> decide
  have h6 := size_prod (s := l) h.1
  exact ⟨by omega, h1.1, by omega⟩
theorem DrStk.valid {l : List Int} (h : DrStk l) : validStack l = true := by
  have h1 := h.size
  unfold validStack; rw [decide_eq_true_iff]
  exact ⟨h.2.1, by have := h.2.2; omega, h.1, by omega⟩
theorem DrDev.len {d : VDev} (h : DrDev d) : 0 < d.stack.length ∧ d.stack.length ≤ 4 ∧ validStack d.stack = true ∧ Nums 255 d.stack ∧ 2 ≤ size d.stack ∧ size d.stack ≤ 1000000000000 := by
  obtain ⟨hk, hv, hl, _⟩ := h
  have hO := devOk hk.2.2.1 hv
  have h1 : validStack d.stack = true := by unfold validDev at hv; rw [decide_eq_true_iff] at hv; exact hv.1
  have h2 := hO.stk.len1
  have h3 := sizeS hO
  have h4 := hO.stk.le
  have h5 := size_two hO.stk
  exact ⟨by omega, hl, h1, hk.2.1, by omega, by omega⟩
def ActP (s : List Int) (l : List VAct) : Prop := ∀ i, i < l.length → OkJ s (l.getD i zA)
theorem ActP.nil {s : List Int} : ActP s [] := fun i hi => by simp at hi
theorem ActP.next {s : List Int} {l : List VAct} {x : VAct} (h : ActP s l) (hx : OkJ s x) : ActP s (l ++ [x]) := fun i hi => by
  rcases Nat.lt_or_ge i l.length with h1 | h1
  · rw [getD_l h1]; exact h i h1
  · have : i = l.length + 0 := by simp at hi; omega
    subst this; rw [getD_r rfl]; exact hx
end Go.W

/- strconv.ParseUint at base ten and seven bits, whatever the string: the number, or an error that is not nil. Turned by a program out of the proof at eight bits. -/
namespace Go.U7
open Go Go.Proofs Go.Shelf Go.RowKit
variable {P : Program} {ρ : Ren}
set_option maxHeartbeats 32000000 in
set_option maxRecDepth 100000 in
theorem u7_inner (L : LaysPu.n16 P ρ) (t : ByteArray) (hne : t.size ≠ 0) (hmax : t.size ≤ 9223372036854775806) (w : World) :
    Calls P (ρ.f 16) #[.string t, .int .i64 10, .int .i64 7] w fun e w' => e = .returned (Lib.uintTupleM (ρ.t 34) 127 (Lib.parseUintM 127 0 t.data.toList)) ∧ w' = Lib.bytesWorld w (ρ.t 5) t := by
  have mixed := L.mixed
  have t9 := L.t9; have a9 := L.a9; have z9 := L.z9; have v9 := L.v9
  have t3 := L.t3; have a3 := L.a3; have z3 := L.z3; have v3 := L.v3
  have t22 := L.t22; have a22 := L.a22; have z22 := L.z22; have v22 := L.v22
  have t24 := L.t24; have a24 := L.a24; have z24 := L.z24; have v24 := L.v24
  have t4 := L.t4; have a4 := L.a4; have z4 := L.z4; have v4 := L.v4
  have t34 := L.t34; have a34 := L.a34; have z34 := L.z34; have v34 := L.v34
  have t5 := L.t5; have a5 := L.a5; have z5 := L.z5; have v5 := L.v5
  have t36 := L.t36; have a36 := L.a36; have z36 := L.z36; have v36 := L.v36
  have t37 := L.t37; have a37 := L.a37; have z37 := L.z37; have v37 := L.v37
  have t0 := L.t0; have a0 := L.a0; have z0 := L.z0; have v0 := L.v0
  have e19 : ∀ args w, (callFunc (ρ.f 19) args).run P w = .ok (.enter (ρ.f 19) args) w := enters_of L.f19 (by kernel_rfl) rfl
  have hemp : t.toList.isEmpty = false := by
    rw [← decide_eq_emptyBytes]
    exact decide_eq_false (fun h => hne (by rw [h]; rfl))
  have hcv := Lib.run_convert_string_bytes (P := P) w (ρ.t 9) (ρ.t 37) (ρ.t 5) t (u := .string) L.t9 L.t37 L.t5
  have hB : ∀ j, j < t.size → (Lib.bytesWorld w (ρ.t 5) t).cell? ⟨w.heap.size, j, none⟩ = some (.int .u8 (t.data.toList.getD j 0).toNat) := fun j hj => Lib.bytesWorld_cell w (ρ.t 5) t j hj
  obtain ⟨W1, hW1⟩ : ∃ W1, W1 = Lib.bytesWorld w (ρ.t 5) t := ⟨_, rfl⟩
  rw [← hW1] at hcv hB ⊢
  clear hW1
  obtain ⟨bs, hL⟩ : ∃ bs, bs = t.data.toList := ⟨_, rfl⟩
  have hLn : bs.length = t.size := by rw [hL, Lib.size_eq]
  rw [← hL] at hB ⊢
  clear hL
  have hmv : IntKind.u64.wrap (IntKind.u64.wrap 128 - 1) = 127 := by
    rw [IntKind.wrap_u64, IntKind.wrap_u64]
    decide
  go_enter L.f16, BodyPu.n16_ntmps ρ
  go_wp2
  go_loop [12, 13, 101] (fun vu vn vi => ∃ (k acc : Nat) (a : Int), vu = .bool false ∧ vn = .int .u64 a ∧ vi = .int .i64 k ∧ k ≤ t.size ∧ Hid (a = (acc : Int) ∧ acc ≤ 127 ∧ Lib.parseUintM 127 0 bs = Lib.parseUintM 127 acc (bs.drop k)))
    (fun _ _ vi => t.size - (intOf vi).toNat)
  case atStart => exact ⟨0, 0, 0, rfl, rfl, rfl, by omega, rfl, by omega, rfl⟩
  case round =>
    obtain ⟨k, acc, a, rfl, rfl, rfl, hk, hh⟩ := hrel
    obtain ⟨ha, hacc, hdec⟩ := hh.out
    clear hh
    have a0 : 0 ≤ a := by omega
    have a1 : a ≤ 127 := by omega
    by_cases hkn : k < t.size
    · have hc := hB k hkn
      have hdrop : bs.drop k = bs[k]'(by omega) :: bs.drop (k + 1) := List.drop_eq_getElem_cons (by omega)
      have hget : bs.getD k 0 = bs[k]'(by omega) := by simp [List.getD, List.getElem?_eq_getElem (show k < bs.length by omega)]
      rw [hdrop] at hdec
      rw [hget] at hc
      generalize bs[k]'(by omega) = c at hc hdec
      have hc256 : c.toNat < 256 := c.toNat_lt
      clear hB hdrop hget
      by_cases hdig : 48 ≤ c.toNat ∧ c.toNat ≤ 57
      · obtain ⟨hd0, hd1⟩ := hdig
        have hcut : ¬ 1844674407370955162 ≤ acc := by omega
        by_cases hov : 127 < acc * 10 + (c.toNat - 48)
        ·
          have hF : Lib.parseUintM 127 acc (c :: bs.drop (k + 1)) = .range := by simp [Lib.parseUintM, hd0, hd1, hcut, hov]
          rw [hF] at hdec
          have iov : 127 < a * 10 + ((c.toNat : Int) - 48) := by omega
          clear hcut hacc hF hov ha
          go_wp2
          go_ret2
          exact ⟨rfl, rfl⟩
        · have hF : Lib.parseUintM 127 acc (c :: bs.drop (k + 1)) = Lib.parseUintM 127 (acc * 10 + (c.toNat - 48)) (bs.drop (k + 1)) := by simp [Lib.parseUintM, hd0, hd1, hcut, hov]
          have HN : Hid (a * 10 + ((c.toNat : Int) - 48) = ((acc * 10 + (c.toNat - 48) : Nat) : Int) ∧ acc * 10 + (c.toNat - 48) ≤ 127 ∧ Lib.parseUintM 127 0 bs = Lib.parseUintM 127 (acc * 10 + (c.toNat - 48)) (bs.drop (k + 1))) := Lib.hid ⟨by omega, by omega, hdec.trans hF⟩
          have iov : a * 10 + ((c.toNat : Int) - 48) ≤ 127 := by omega
          clear hcut hacc hF hov hdec ha
          go_wp2
          refine ⟨⟨k + 1, acc * 10 + (c.toNat - 48), a * 10 + ((c.toNat : Int) - 48), rfl, (by first | rfl | (congr 1; omega)), (by first | rfl | (congr 1; omega)), by omega, HN⟩, by simp [intOf]; omega⟩
      ·
        have hF : Lib.parseUintM 127 acc (c :: bs.drop (k + 1)) = Lib.parseUintB 7 [] := by simp [Lib.parseUintM, Lib.parseUintB, hdig]
        rw [hF] at hdec
        clear hacc hF ha
        have hv0 := bits_lo_u8 .or (c.toNat : Int) 32
        have hv1 := bits_hi_u8 .or (c.toNat : Int) 32
        have hu0 := bits_lo_u8 .or 95 32
        have hu1 := bits_hi_u8 .or 95 32
        go_wp2_with (go_at_fn (ρ.f 19); refine (AnyPu.internal_strconv_lower { L with } _ _).mono ?_; rintro e w' ⟨rfl, rfl⟩)
        all_goals go_ret2
        all_goals first | exact ⟨rfl, rfl⟩ | exact ⟨by rw [hdec]; rfl, rfl⟩
    ·
      have hkk : k = t.size := by omega
      subst hkk
      have hF : Lib.parseUintM 127 acc (bs.drop t.size) = .ok acc := by rw [List.drop_eq_nil_of_le (by omega)]; rfl
      rw [hF] at hdec
      subst ha
      clear hacc hF a0 a1
      go_wp2
      go_ret2
      exact ⟨rfl, rfl⟩

theorem u7_at (L : LaysPu.n16 P ρ) (t : ByteArray) (hmax : t.size ≤ 9223372036854775806) (w : World) :
    Calls P (ρ.f 16) #[.string t, .int .i64 10, .int .i64 7] w fun e w' => e = .returned (Lib.uintTupleM (ρ.t 34) 127 (Lib.parseUintB 7 t.data.toList)) ∧ (w' = w ∨ w' = Lib.bytesWorld w (ρ.t 5) t) := by
  have eM : (2 : Nat) ^ 7 - 1 = 127 := by decide
  by_cases h0 : t.size = 0
  · have ht : t = ⟨#[]⟩ := by
      apply ByteArray.ext
      exact Array.eq_empty_of_size_eq_zero h0
    subst ht
    exact (AnyPu.internal_strconv_ParseUint_empty { L with } 10 7 w).mono fun e w' ⟨he, hw⟩ => ⟨he, Or.inl hw⟩
  · have hne : t.data.toList ≠ [] := fun h => h0 (by rw [Lib.size_eq, h]; rfl)
    refine (u7_inner { L with } t h0 hmax w).mono fun e w' ⟨he, hw⟩ => ⟨?_, Or.inr hw⟩
    rw [he, Lib.parseUintB, if_neg hne, eM]

set_option maxHeartbeats 4000000 in
set_option maxRecDepth 100000 in
theorem u7_ok (L : LaysPu.n14 P ρ) (s : ByteArray) (hmax : s.size ≤ 9223372036854775806) (u : Nat) (h : Lib.parseUintB 7 s.data.toList = .ok u) (w : World) :
    Calls P (ρ.f 14) #[.string s, .int .i64 10, .int .i64 7] w fun e w' => e = .returned (.tuple #[.int .u64 u, .nilIface]) ∧ (w' = w ∨ w' = Lib.bytesWorld w (ρ.t 5) s) := by
  have mixed := L.mixed
  have t9 := L.t9; have a9 := L.a9; have z9 := L.z9; have v9 := L.v9
  have t3 := L.t3; have a3 := L.a3; have z3 := L.z3; have v3 := L.v3
  have t22 := L.t22; have a22 := L.a22; have z22 := L.z22; have v22 := L.v22
  have t24 := L.t24; have a24 := L.a24; have z24 := L.z24; have v24 := L.v24
  have t25 := L.t25; have a25 := L.a25; have z25 := L.z25; have v25 := L.v25
  have t4 := L.t4; have a4 := L.a4; have z4 := L.z4; have v4 := L.v4
  have e16 : ∀ args w, (callFunc (ρ.f 16) args).run P w = .ok (.enter (ρ.f 16) args) w := enters_of L.f16 (by kernel_rfl) rfl
  have hI := u7_at { L with } s hmax w
  rw [h] at hI
  have hI : Calls P (ρ.f 16) #[.string s, .int .i64 10, .int .i64 7] w fun e w' => e = .returned (.tuple #[.int .u64 u, .nilIface]) ∧ (w' = w ∨ w' = Lib.bytesWorld w (ρ.t 5) s) := hI
  clear h
  go_enter L.f14, BodyPu.n14_ntmps ρ
  go_wp2_with (go_at_fn (ρ.f 16); refine hI.mono ?_; rintro e W1 ⟨rfl, hW⟩)
  go_wp2
  go_ret2
  exact ⟨rfl, hW⟩
set_option maxHeartbeats 4000000 in
set_option maxRecDepth 100000 in
theorem u7_syn (L : LaysPu.n14 P ρ) (s : ByteArray) (hlim : s.size ≤ 281474976710656) (h : Lib.parseUintB 7 s.data.toList = Lib.parseUintB 7 []) (ev : Value) (w : World) (hv : w.cell? ⟨(ρ.g 0), 0, none⟩ = some ev) (hev : ev = .nilIface ∨ ∃ te pe, ev = .iface te pe) :
    Calls P (ρ.f 14) #[.string s, .int .i64 10, .int .i64 7] w fun e w' => ∃ N, e = .returned (.tuple #[.int .u64 0, .iface (ρ.t 39) (.pointer (some ⟨N, 0, none⟩))]) ∧ w.heap.size ≤ N ∧ w'.heap[N]? = some (.cells #[.string ⟨#[80, 97, 114, 115, 101, 85, 105, 110, 116]⟩, .string s, ev] (ρ.t 44) (0, 0)) ∧ Below w.heap.size w w' := by
  have mixed := L.mixed
  have t9 := L.t9; have a9 := L.a9; have z9 := L.z9; have v9 := L.v9
  have t3 := L.t3; have a3 := L.a3; have z3 := L.z3; have v3 := L.v3
  have t22 := L.t22; have a22 := L.a22; have z22 := L.z22; have v22 := L.v22
  have t24 := L.t24; have a24 := L.a24; have z24 := L.z24; have v24 := L.v24
  have t25 := L.t25; have a25 := L.a25; have z25 := L.z25; have v25 := L.v25
  have t4 := L.t4; have a4 := L.a4; have z4 := L.z4; have v4 := L.v4
  have e16 : ∀ args w, (callFunc (ρ.f 16) args).run P w = .ok (.enter (ρ.f 16) args) w := enters_of L.f16 (by kernel_rfl) rfl
  have e17 : ∀ args w, (callFunc (ρ.f 17) args).run P w = .ok (.enter (ρ.f 17) args) w := enters_of L.f17 (by kernel_rfl) rfl
  have hG : (ρ.g 0) < w.heap.size := Lib.lt_of_cell hv
  have hI := u7_at { L with } s (by omega) w
  rw [h] at hI
  have hI : Calls P (ρ.f 16) #[.string s, .int .i64 10, .int .i64 7] w fun e w' => e = .returned (.tuple #[.int .u64 0, .iface (ρ.t 34) (.int .i64 2)]) ∧ (w' = w ∨ w' = Lib.bytesWorld w (ρ.t 5) s) := hI
  clear h
  go_enter L.f14, BodyPu.n14_ntmps ρ
  go_wp2_with (go_at_fn (ρ.f 16); refine hI.mono ?_)
  rintro e W1 ⟨rfl, hW⟩
  have hb1 : Below w.heap.size w W1 := by
    rcases hW with rfl | rfl
    · exact Below.refl _ _
    · exact Lib.bytesWorld_below _ _ _
  have hv1 : W1.cell? ⟨(ρ.g 0), 0, none⟩ = some ev := (hb1.cell (show (⟨(ρ.g 0), 0, none⟩ : Addr).block < w.heap.size from hG)).trans hv
  clear hW
  go_wp2_with (go_at_fn (ρ.f 17); refine (AnyPu.strconv_toError_syntax { L with } ⟨#[80, 97, 114, 115, 101, 85, 105, 110, 116]⟩ s 10 7 ev _ hlim ?_ hev).mono ?_)
  · exact hv1
  rintro e W2 ⟨N, rfl, h1, h2, h3⟩
  go_wp2
  go_ret2
  exact ⟨N, rfl, Nat.le_trans hb1.size h1, h2, hb1.trans (h3.mono hb1.size)⟩
set_option maxHeartbeats 4000000 in
set_option maxRecDepth 100000 in
theorem u7_rng (L : LaysPu.n14 P ρ) (s : ByteArray) (hlim : s.size ≤ 281474976710656) (h : Lib.parseUintB 7 s.data.toList = .range) (ev : Value) (w : World) (hv : w.cell? ⟨(ρ.g 1), 0, none⟩ = some ev) (hev : ev = .nilIface ∨ ∃ te pe, ev = .iface te pe) :
    Calls P (ρ.f 14) #[.string s, .int .i64 10, .int .i64 7] w fun e w' => ∃ N, e = .returned (.tuple #[.int .u64 127, .iface (ρ.t 39) (.pointer (some ⟨N, 0, none⟩))]) ∧ w.heap.size ≤ N ∧ w'.heap[N]? = some (.cells #[.string ⟨#[80, 97, 114, 115, 101, 85, 105, 110, 116]⟩, .string s, ev] (ρ.t 44) (0, 0)) ∧ Below w.heap.size w w' := by
  have mixed := L.mixed
  have t9 := L.t9; have a9 := L.a9; have z9 := L.z9; have v9 := L.v9
  have t3 := L.t3; have a3 := L.a3; have z3 := L.z3; have v3 := L.v3
  have t22 := L.t22; have a22 := L.a22; have z22 := L.z22; have v22 := L.v22
  have t24 := L.t24; have a24 := L.a24; have z24 := L.z24; have v24 := L.v24
  have t25 := L.t25; have a25 := L.a25; have z25 := L.z25; have v25 := L.v25
  have t4 := L.t4; have a4 := L.a4; have z4 := L.z4; have v4 := L.v4
  have e16 : ∀ args w, (callFunc (ρ.f 16) args).run P w = .ok (.enter (ρ.f 16) args) w := enters_of L.f16 (by kernel_rfl) rfl
  have e17 : ∀ args w, (callFunc (ρ.f 17) args).run P w = .ok (.enter (ρ.f 17) args) w := enters_of L.f17 (by kernel_rfl) rfl
  have hG : (ρ.g 1) < w.heap.size := Lib.lt_of_cell hv
  have hI := u7_at { L with } s (by omega) w
  rw [h] at hI
  have hI : Calls P (ρ.f 16) #[.string s, .int .i64 10, .int .i64 7] w fun e w' => e = .returned (.tuple #[.int .u64 127, .iface (ρ.t 34) (.int .i64 1)]) ∧ (w' = w ∨ w' = Lib.bytesWorld w (ρ.t 5) s) := hI
  clear h
  go_enter L.f14, BodyPu.n14_ntmps ρ
  go_wp2_with (go_at_fn (ρ.f 16); refine hI.mono ?_)
  rintro e W1 ⟨rfl, hW⟩
  have hb1 : Below w.heap.size w W1 := by
    rcases hW with rfl | rfl
    · exact Below.refl _ _
    · exact Lib.bytesWorld_below _ _ _
  have hv1 : W1.cell? ⟨(ρ.g 1), 0, none⟩ = some ev := (hb1.cell (show (⟨(ρ.g 1), 0, none⟩ : Addr).block < w.heap.size from hG)).trans hv
  clear hW
  go_wp2_with (go_at_fn (ρ.f 17); refine (AnyPu.strconv_toError_range { L with } ⟨#[80, 97, 114, 115, 101, 85, 105, 110, 116]⟩ s 10 7 ev _ hlim ?_ hev).mono ?_)
  · exact hv1
  rintro e W2 ⟨N, rfl, h1, h2, h3⟩
  go_wp2
  go_ret2
  exact ⟨N, rfl, Nat.le_trans hb1.size h1, h2, hb1.trans (h3.mono hb1.size)⟩

end Go.U7
