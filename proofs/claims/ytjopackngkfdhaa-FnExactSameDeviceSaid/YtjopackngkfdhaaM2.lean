/- Digits and devices in plain numbers. -/
import Derived.Test.YtjopackngkfdhaaM1
namespace Go.W
open Go Go.Sx
structure Dig where
  d0 : Int
  d1 : Int
  d2 : Int
  d3 : Int
  d4 : Int
  d5 : Int
  d6 : Int
  d7 : Int
def Dig.l (a : Dig) : List Int := [a.d0, a.d1, a.d2, a.d3, a.d4, a.d5, a.d6, a.d7]
def encD (a : Dig) : List Value := a.l.flatMap (eI .u8)
def dig (s : List Int) : Dig := ⟨s.getD 0 0, s.getD 1 0, s.getD 2 0, s.getD 3 0, s.getD 4 0, s.getD 5 0, s.getD 6 0, s.getD 7 0⟩
theorem dig_l {s : List Int} (h : s.length = 8) : (dig s).l = s := by
  match s, h with
  | [_, _, _, _, _, _, _, _], _ => rfl
theorem dig_len (a : Dig) : a.l.length = 8 := rfl
theorem encD_dig {s : List Int} (h : s.length = 8) : encD (dig s) = s.flatMap (eI .u8) := by unfold encD; rw [dig_l h]
theorem dig_inj {a b : Dig} (h : a.l = b.l) : a = b := by
  cases a; cases b; simp only [Dig.l, List.cons.injEq, and_true] at h; obtain ⟨rfl, rfl, rfl, rfl, rfl, rfl, rfl, rfl⟩ := h; rfl
/-- Two lists of numbers, compared from the front. -/
theorem list_eq {s t : List Int} {k : Nat} (hl : s.length = t.length) (hk : ¬ k < s.length) (h : ∀ i, i < k → s.getD i 0 = t.getD i 0) : s = t := by
  refine List.ext_getElem hl fun i h1 h2 => ?_
  have := h i (by omega)
  simpa [List.getD, h1, h2] using this
theorem eq_yes {s t : List Int} {k : Nat} (hl : s.length = t.length) (hk : ¬ k < s.length) (h : ∀ i, i < k → s.getD i 0 = t.getD i 0) : true = decide (s = t) := by simp [list_eq hl hk h]
theorem eq_no {s t : List Int} (k : Nat) (h : ¬ s.getD k 0 = t.getD k 0) : false = decide (s = t) := by
  symm; rw [decide_eq_false_iff_not]; rintro rfl; exact h rfl
theorem eq_len {s t : List Int} (h : ¬ s.length = t.length) : false = decide (s = t) := by
  symm; rw [decide_eq_false_iff_not]; rintro rfl; exact h rfl
structure VDev where
  stack : List Int
  shows : Dig
  preset : Int
  stopped : Bool
  tickets : Int
def encV (A : Option Addr) (c : Nat) (d : VDev) : List Value := .slice A d.stack.length c :: (encD d.shows ++ [.int .i64 d.preset, .bool d.stopped, .int .i64 d.tickets])
def sameV (a b : VDev) : Bool := decide (a.stack = b.stack ∧ a.shows.l = b.shows.l ∧ a.preset = b.preset ∧ a.stopped = b.stopped ∧ a.tickets = b.tickets)
structure VTic where
  number : Int
  shows : Dig
  check : Int
def encT (t : VTic) : List Value := .int .i64 t.number :: (encD t.shows ++ [.int .u16 t.check])
theorem encT_len : ∀ t, (encT t).length = 10 := fun _ => rfl
structure VNote where
  act : VAct
  shows : Dig
  lost : Int
def encN (t : VNote) : List Value := encA t.act ++ (encD t.shows ++ [.int .i64 t.lost])
theorem encN_len : ∀ t, (encN t).length = 11 := fun _ => rfl
def I64 (n : Int) : Prop := -9223372036854775808 ≤ n ∧ n ≤ 9223372036854775807
def OkAct (a : VAct) : Prop := (-128 ≤ a.kind ∧ a.kind ≤ 127) ∧ I64 a.n
def OkTic (t : VTic) : Prop := I64 t.number ∧ Nums 255 t.shows.l ∧ 0 ≤ t.check ∧ t.check ≤ 65535
def OkNote (t : VNote) : Prop := OkAct t.act ∧ Nums 255 t.shows.l ∧ I64 t.lost
def OkDev (d : VDev) : Prop := d.stack.length ≤ maxLen ∧ Nums 255 d.stack ∧ Nums 255 d.shows.l ∧ I64 d.preset ∧ I64 d.tickets
theorem sameV_refl (a : VDev) : sameV a a = true := by simp [sameV]
end Go.W
