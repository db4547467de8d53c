/- Digits and devices in plain numbers. -/
import Derived.Test.YthfbmkfbmmjchaaDoorM1
namespace Go.W
open Go Go.Sx
structure Dig where
  d0 : Int
  d1 : Int
  d2 : Int
  d3 : Int
  d4 : Int
  d5 : Int
  d6 : Int
  d7 : Int
def Dig.l (a : Dig) : List Int := [a.d0, a.d1, a.d2, a.d3, a.d4, a.d5, a.d6, a.d7]
def encD (a : Dig) : List Value := a.l.flatMap (eI .u8)
def dig (s : List Int) : Dig := ⟨s.getD 0 0, s.getD 1 0, s.getD 2 0, s.getD 3 0, s.getD 4 0, s.getD 5 0, s.getD 6 0, s.getD 7 0⟩
theorem dig_l {s : List Int} (h : s.length = 8) : (dig s).l = s := by
  match s, h with
  | [_, _, _, _, _, _, _, _], _ => rfl
theorem dig_len (a : Dig) : a.l.length = 8 := rfl
theorem encD_dig {s : List Int} (h : s.length = 8) : encD (dig s) = s.flatMap (eI .u8) := by unfold encD; rw [dig_l h]
theorem dig_inj {a b : Dig} (h : a.l = b.l) : a = b := by
  cases a; cases b; simp only [Dig.l, List.cons.injEq, and_true] at h; obtain ⟨rfl, rfl, rfl, rfl, rfl, rfl, rfl, rfl⟩ := h; rfl
/-- Two lists of numbers, compared from the front. -/
theorem list_eq {s t : List Int} {k : Nat} (hl : s.length = t.length) (hk : ¬ k < s.length) (h : ∀ i, i < k → s.getD i 0 = t.getD i 0) : s = t := by
  refine List.ext_getElem hl fun i h1 h2 => ?_
  have := h i (by omega)
  simpa [List.getD, h1, h2] using this
theorem eq_yes {s t : List Int} {k : Nat} (hl : s.length = t.length) (hk : ¬ k < s.length) (h : ∀ i, i < k → s.getD i 0 = t.getD i 0) : true = decide (s = t) := by simp [list_eq hl hk h]
theorem eq_no {s t : List Int} (k : Nat) (h : ¬ s.getD k 0 = t.getD k 0) : false = decide (s = t) := by
  symm; rw [decide_eq_false_iff_not]; rintro rfl; exact h rfl
theorem eq_len {s t : List Int} (h : ¬ s.length = t.length) : false = decide (s = t) := by
  symm; rw [decide_eq_false_iff_not]; rintro rfl; exact h rfl
structure VDev where
  stack : List Int
  shows : Dig
  preset : Int
  stopped : Bool
  tickets : Int
def encV (A : Option Addr) (c : Nat) (d : VDev) : List Value := .slice A d.stack.length c :: (encD d.shows ++ [.int .i64 d.preset, .bool d.stopped, .int .i64 d.tickets])
def sameV (a b : VDev) : Bool := decide (a.stack = b.stack ∧ a.shows.l = b.shows.l ∧ a.preset = b.preset ∧ a.stopped = b.stopped ∧ a.tickets = b.tickets)
structure VTic where
  number : Int
  shows : Dig
  check : Int
def encT (t : VTic) : List Value := .int .i64 t.number :: (encD t.shows ++ [.int .u16 t.check])
theorem encT_len : ∀ t, (encT t).length = 10 := fun _ => rfl
structure VNote where
  act : VAct
  shows : Dig
  lost : Int
def encN (t : VNote) : List Value := encA t.act ++ (encD t.shows ++ [.int .i64 t.lost])
theorem encN_len : ∀ t, (encN t).length = 11 := fun _ => rfl
def I64 (n : Int) : Prop := -9223372036854775808 ≤ n ∧ n ≤ 9223372036854775807
def OkAct (a : VAct) : Prop := (-128 ≤ a.kind ∧ a.kind ≤ 127) ∧ I64 a.n
def OkTic (t : VTic) : Prop := I64 t.number ∧ Nums 255 t.shows.l ∧ 0 ≤ t.check ∧ t.check ≤ 65535
def OkNote (t : VNote) : Prop := OkAct t.act ∧ Nums 255 t.shows.l ∧ I64 t.lost
def OkDev (d : VDev) : Prop := d.stack.length ≤ maxLen ∧ Nums 255 d.stack ∧ Nums 255 d.shows.l ∧ I64 d.preset ∧ I64 d.tickets
theorem sameV_refl (a : VDev) : sameV a a = true := by simp [sameV]
end Go.W
namespace Go.W
open Go Go.Sx
def step (c b : Int) : Int := (c * 259 + b) % 65536
def chk1 (n : Int) : Nat → Int
  | 0 => 1
  | k + 1 => step (chk1 n k) (n / 256 ^ k % 256)
def chk2 (c : Int) (l : List Int) : Int := l.foldl step c
def check (n : Int) (l : List Int) : Int := chk2 (chk1 n 4) l
theorem chk2_snoc (c : Int) (l : List Int) (k : Nat) (h : k < l.length) : chk2 c (l.take (k + 1)) = step (chk2 c (l.take k)) (l.getD k 0) := by
  unfold chk2; rw [List.take_succ_eq_append_getElem h, List.foldl_append]; simp [List.getD, h]
theorem wrap_step (c b : Int) : IntKind.u16.wrap (IntKind.u16.wrap (c * 259) + b) = step c b := by
  rw [wrap_u16, wrap_u16]; unfold step; omega
theorem shr_256 {n : Int} {k : Nat} (h : k < 4) : n / 2 ^ min (8 * (k : Int)).toNat IntKind.i64.bits = n / 256 ^ k := by
  match k, h with
  | 0, _ => rfl
  | 1, _ => rfl
  | 2, _ => rfl
  | 3, _ => rfl
theorem div_256 (n : Int) (k : Nat) : n / 256 ^ k / 2 ^ min (8 : Int).toNat IntKind.i64.bits = n / 256 ^ (k + 1) := by
  rw [show (2 : Int) ^ min (8 : Int).toNat IntKind.i64.bits = 256 from rfl, Int.pow_succ, Int.ediv_ediv_of_nonneg (Int.pow_nonneg (by omega))]
theorem wrap_u8_mod (n : Int) : IntKind.u8.wrap n = n % 256 := IntKind.wrap_u8 n
def goodAt (s l : List Int) (i : Nat) : Bool := if i < s.length then decide (l.getD i 0 < s.getD i 0) else decide (l.getD i 0 = 0)
def validDig (s l : List Int) : Bool := (List.range 8).all (goodAt s l)
theorem vd_no {s l : List Int} {k : Nat} (hk : k < 8) (h : goodAt s l k = false) : false = validDig s l := by
  symm; rw [← Bool.not_eq_true]; unfold validDig; rw [List.all_eq_true]; intro hall
  rw [hall k (by simp; omega)] at h; cases h
theorem good_lo {s l : List Int} {k : Nat} (h : k < s.length) (h1 : ¬ s.getD k 0 ≤ l.getD k 0) : goodAt s l k = true := by unfold goodAt; rw [if_pos h, decide_eq_true_iff]; omega
theorem good_hi {s l : List Int} {k : Nat} (h : ¬ k < s.length) (h1 : l.getD k 0 = 0) : goodAt s l k = true := by unfold goodAt; rw [if_neg h, decide_eq_true_iff]; exact h1
theorem bad_lo {s l : List Int} {k : Nat} (hk : k < 8) (h : k < s.length) (h1 : s.getD k 0 ≤ l.getD k 0) : false = validDig s l := by
  refine vd_no hk ?_
  unfold goodAt; rw [if_pos h, decide_eq_false_iff_not]; omega
theorem bad_hi {s l : List Int} {k : Nat} (hk : k < 8) (h : ¬ k < s.length) (h1 : ¬ l.getD k 0 = 0) : false = validDig s l := by
  refine vd_no hk ?_
  unfold goodAt; rw [if_neg h, decide_eq_false_iff_not]; exact h1
theorem good_all {s l : List Int} {k : Nat} (hk : ¬ k < 8) (h : ∀ i, i < k → goodAt s l i = true) : true = validDig s l := by
  symm; unfold validDig; rw [List.all_eq_true]; intro i hi; exact h i (by simp at hi; omega)
end Go.W
namespace Go.W
open Go Go.Sx
theorem getD_mem {α : Type} {s : List α} (d : α) {k : Nat} (h : k < s.length) : s.getD k d ∈ s := by
  simp only [List.getD, List.getElem?_eq_getElem h, Option.getD_some]; exact List.getElem_mem h
def idxF {α : Type} (p : α → Bool) (s : List α) : Int := match s.findIdx? p with
  | some i => i
  | none => -1
theorem idx_hit {α : Type} {p : α → Bool} {s : List α} {d : α} {k : Nat} (hk : k < s.length) (hall : ∀ i, i < k → p (s.getD i d) = false) (h : p (s.getD k d) = true) : idxF p s = k := by
  unfold idxF
  have : s.findIdx? p = some k := by
    rw [List.findIdx?_eq_some_iff_getElem]
    refine ⟨hk, by simpa [List.getD, hk] using h, fun j hj => ?_⟩
    have := hall j hj
    have hj' : j < s.length := by omega
    simpa [List.getD, hj'] using this
  rw [this]
theorem idx_none {α : Type} {p : α → Bool} {s : List α} {d : α} {k : Nat} (hk : s.length ≤ k) (hall : ∀ i, i < k → p (s.getD i d) = false) : idxF p s = -1 := by
  unfold idxF
  have : s.findIdx? p = none := by
    rw [List.findIdx?_eq_none_iff]
    intro x hx
    obtain ⟨i, hi, rfl⟩ := List.getElem_of_mem hx
    have := hall i (by omega)
    simpa [List.getD, hi] using this
  rw [this]
theorem any_idx {α : Type} {p : α → Bool} {s : List α} : s.any p = decide (0 ≤ idxF p s) := by
  unfold idxF
  cases h : s.findIdx? p with
  | none =>
    rw [List.findIdx?_eq_none_iff] at h
    have : s.any p = false := by rw [List.any_eq_false]; intro x hx; simp [h x hx]
    rw [this]; rfl
  | some i =>
    rw [List.findIdx?_eq_some_iff_getElem] at h
    obtain ⟨hi, hp, _⟩ := h
    have : s.any p = true := by rw [List.any_eq_true]; exact ⟨_, List.getElem_mem hi, hp⟩
    rw [this]; symm; rw [decide_eq_true_iff]; exact Int.natCast_nonneg _
theorem vs_any {s : List Int} (h : s.any (fun x => decide (x < 2 ∨ 100 < x)) = true) : false = validStack s := by
  rw [List.any_eq_true] at h
  obtain ⟨x, hx, hp⟩ := h
  obtain ⟨i, hi, rfl⟩ := List.getElem_of_mem hx
  refine vs_base (k := i) hi ?_
  rw [decide_eq_true_iff] at hp
  simp only [List.getD, List.getElem?_eq_getElem hi, Option.getD_some]
  omega
theorem vs_yes2 {s : List Int} (h : 1 ≤ (s.length : Int) ∧ (s.length : Int) ≤ 8) (h3 : s.any (fun x => decide (x < 2 ∨ 100 < x)) = false) (h4 : size s ≤ 1000000000000) : true = validStack s := by
  refine vs_yes h (fun i hi => ?_) h4
  rw [List.any_eq_false] at h3
  have := h3 _ (getD_mem 0 hi)
  rw [decide_eq_true_iff] at this
  omega
end Go.W
namespace Go.W
open Go Go.Sx
def ckOf (s : List Int) (n : Int) (a : Dig) : Int × Int := if (validStack s && validDig s a.l) = false then (0, 1) else if ¬ (1 ≤ n ∧ n ≤ 1000000) then (0, 2) else (check n a.l, 0)
end Go.W
