/- What a device does, in plain numbers. -/
import Derived.Test.YthfbmkfbmmjchaaDoorM3
set_option linter.unusedVariables false
set_option linter.unusedSimpArgs false
namespace Go.W
open Go Go.Sx
def VDev.v (d : VDev) : Int := val d.stack d.shows.l
def validDev (d : VDev) : Bool := decide (validStack d.stack = true ∧ validDig d.stack d.shows.l = true ∧ (0 ≤ d.tickets ∧ d.tickets ≤ 1000000) ∧ (d.preset = -1 ∨ 0 ≤ d.preset ∧ d.preset ≤ size d.stack - 1) ∧ (d.stopped = true → d.preset = d.v))
structure DevOk (d : VDev) : Prop where
  stk : Stk d.stack
  dig : DigOk d.stack d.shows.l
  vd : validDig d.stack d.shows.l = true
  tick : 0 ≤ d.tickets ∧ d.tickets ≤ 1000000
  preset : d.preset = -1 ∨ 0 ≤ d.preset ∧ d.preset ≤ prod d.stack - 1
  stop : d.stopped = true → d.preset = d.v
theorem devOk {d : VDev} (hn : Nums 255 d.shows.l) (h : validDev d = true) : DevOk d := by
  unfold validDev at h
  rw [decide_eq_true_iff] at h
  obtain ⟨h1, h2, h3, h4, h5⟩ := h
  have hs := Go.W.stk h1
  exact ⟨hs, digOk hs.len8 hn h2, h2, h3, by rw [hs.size_] at h4; exact h4, h5⟩
theorem DevOk.v_lt {d : VDev} (h : DevOk d) : 0 ≤ d.v ∧ d.v < prod d.stack := val_lt h.stk h.dig (by rw [dig_len]; exact h.stk.len8)
/-- How many pulses there are until n is gone through, size at most. -/
def until1 (n size : Int) : Int := if n % size = 0 then size else n % size
theorem until_pos {n z : Int} (hz : 0 < z) : 1 ≤ until1 n z ∧ until1 n z ≤ z := by
  unfold until1
  have h1 := Int.emod_nonneg n (show z ≠ 0 by omega)
  have h2 := Int.emod_lt_of_pos n hz
  split <;> omega
theorem until_big {n z : Int} (hz : 0 < z) (h0 : 0 < n) (h1 : n < z) : until1 n z = n := by
  unfold until1; rw [Int.emod_eq_of_lt (by omega) h1, if_neg (by omega)]
theorem until_small {n z : Int} (hz : 0 < z) (h0 : n ≤ 0) (h1 : -z < n) : until1 n z = n + z := by
  unfold until1
  have e : n % z = if n = 0 then 0 else n + z := by
    split
    · subst n; simp
    · have := Int.add_emod_right n z
      rw [← this, Int.emod_eq_of_lt (by omega) (by omega)]
  rw [e]; split <;> split <;> omega
end Go.W
namespace Go.W
open Go Go.Sx
def zDig : Dig := ⟨0, 0, 0, 0, 0, 0, 0, 0⟩
def zT : VTic := ⟨0, zDig, 0⟩
def zN : VNote := ⟨zA, zDig, 0⟩
def zDev : VDev := ⟨[], zDig, 0, false, 0⟩
/-- Two lists, compared one by one. -/
def allEq {α : Type} (e : α → α → Bool) (d : α) (s t : List α) : Bool := decide (s.length = t.length ∧ ∀ i, i < s.length → e (s.getD i d) (t.getD i d) = true)
theorem allEq_refl {α : Type} {e : α → α → Bool} (he : ∀ x, e x x = true) (d : α) (s : List α) : allEq e d s s = true := by simp [allEq, he]
theorem ae_len {α : Type} {e : α → α → Bool} {d : α} {s t : List α} (h : ¬ s.length = t.length) : false = allEq e d s t := by symm; unfold allEq; rw [decide_eq_false_iff_not]; exact fun h' => h h'.1
theorem ae_no {α : Type} {e : α → α → Bool} {d : α} {s t : List α} (k : Nat) (hk : k < s.length) (h : e (s.getD k d) (t.getD k d) = false) : false = allEq e d s t := by
  symm; unfold allEq; rw [decide_eq_false_iff_not]; intro h'; rw [h'.2 k hk] at h; cases h
theorem ae_yes {α : Type} {e : α → α → Bool} {d : α} {s t : List α} {k : Nat} (hl : s.length = t.length) (hk : ¬ k < s.length) (h : ∀ i, i < k → e (s.getD i d) (t.getD i d) = true) : true = allEq e d s t := by
  symm; unfold allEq; rw [decide_eq_true_iff]; exact ⟨hl, fun i hi => h i (by omega)⟩
def sameT (a b : VTic) : Bool := decide (a.number = b.number ∧ a.shows.l = b.shows.l ∧ a.check = b.check)
def sameA (a b : VAct) : Bool := decide (a.kind = b.kind ∧ a.n = b.n)
def sameN (a b : VNote) : Bool := decide (sameA a.act b.act = true ∧ a.shows.l = b.shows.l ∧ a.lost = b.lost)
theorem sameT_refl (a : VTic) : sameT a a = true := by simp [sameT]
theorem sameA_refl (a : VAct) : sameA a a = true := by simp [sameA]
theorem sameN_refl (a : VNote) : sameN a a = true := by simp [sameN, sameA]
theorem sameTs_refl (s : List VTic) : allEq sameT zT s s = true := allEq_refl sameT_refl _ _
theorem sameAs_refl (s : List VAct) : allEq sameA zA s s = true := allEq_refl sameA_refl _ _
theorem sameNs_refl (s : List VNote) : allEq sameN zN s s = true := allEq_refl sameN_refl _ _
/-- Each of a list is well. -/
theorem all_at {α : Type} {p : α → Prop} {s : List α} (h : ∀ x ∈ s, p x) {k : Nat} (d : α) (hk : k < s.length) : p (s.getD k d) := h _ (getD_mem d hk)
def genT (s : List Int) (t : VTic) : Bool := decide ((1 ≤ t.number ∧ t.number ≤ 1000000) ∧ validDig s t.shows.l = true ∧ t.check = check t.number t.shows.l)
def tfault (s : List Int) (n : Nat) : Int := if validStack s = false then 1 else if 60 < (n : Int) then 3 else 0
theorem tf_bad {s : List Int} {n : Nat} (h : validStack s = false) : 1 = tfault s n := by unfold tfault; rw [if_pos h]
theorem tf_long {s : List Int} {n : Nat} (h : validStack s = true) (h2 : 60 < (n : Int)) : 3 = tfault s n := by unfold tfault; rw [if_neg (by simp [h]), if_pos h2]
theorem tf_ok {s : List Int} {n : Nat} (h : validStack s = true) (h2 : ¬ 60 < (n : Int)) : 0 = tfault s n := by unfold tfault; rw [if_neg (by simp [h]), if_neg h2]
theorem tf_zero {s : List Int} {n : Nat} (h : ¬ tfault s n ≠ 0) : validStack s = true ∧ n ≤ 60 := by
  unfold tfault at h
  split at h
  · exact absurd (by decide) h
  · split at h
    · exact absurd (by decide) h
    · exact ⟨by simp_all, by omega⟩
/-- The first of a list that does not go on as it should. -/
def badT (s : List Int) (l : List VTic) (i : Nat) : Bool := decide (genT s (l.getD i zT) = false ∨ 0 < i ∧ (l.getD i zT).number ≤ (l.getD (i - 1) zT).number)
def firstB (p : Nat → Bool) (n : Nat) : Option Nat := (List.range n).find? p
theorem firstB_hit {p : Nat → Bool} {n k : Nat} (hk : k < n) (h : ∀ i, i < k → p i = false) (hp : p k = true) : firstB p n = some k := by
  unfold firstB
  rw [List.find?_range_eq_some]
  exact ⟨hp, by simpa using hk, fun j hj => by simp [h j hj]⟩
theorem firstB_none {p : Nat → Bool} {n k : Nat} (hk : ¬ k < n) (h : ∀ i, i < k → p i = false) : firstB p n = none := by
  unfold firstB
  rw [List.find?_range_eq_none]
  intro i hi
  simp [h i (by omega)]
def at2 (o : Option Nat) : Int × Int := match o with
  | some k => (k, 0)
  | none => (0, 6)
def firstForged (s : List Int) (l : List VTic) : Int × Int := if tfault s l.length ≠ 0 then (0, tfault s l.length) else at2 (firstB (badT s l) l.length)
theorem badT_f {s : List Int} {l : List VTic} {k : Nat} (h1 : genT s (l.getD k zT) = true) (h2 : ¬ (0 < k ∧ (l.getD k zT).number ≤ (l.getD (k - 1) zT).number)) : badT s l k = false := by
  unfold badT; rw [decide_eq_false_iff_not]; rintro (h | h)
  · rw [h1] at h; cases h
  · exact h2 h
theorem badT_1 {s : List Int} {l : List VTic} {k : Nat} (h1 : genT s (l.getD k zT) = false) : badT s l k = true := by unfold badT; rw [decide_eq_true_iff]; exact .inl h1
theorem badT_2 {s : List Int} {l : List VTic} {k : Nat} (h0 : 0 < k) (h : (l.getD k zT).number ≤ (l.getD (k - 1) zT).number) : badT s l k = true := by unfold badT; rw [decide_eq_true_iff]; exact .inr ⟨h0, h⟩
end Go.W
namespace Go.W
open Go Go.Sx
def untilV (d : VDev) (st : Int) : Int := until1 (st * (d.preset - d.v)) (prod d.stack)
def pulseV (d : VDev) (n st : Int) : VDev × Int := if d.stopped = true then (d, n) else if d.preset ≠ -1 ∧ untilV d st ≤ n then (⟨d.stack, addD d.stack d.shows (st * untilV d st), d.preset, true, d.tickets⟩, n - untilV d st) else (⟨d.stack, addD d.stack d.shows (st * n), d.preset, d.stopped, d.tickets⟩, 0)
theorem pv_stop {d : VDev} {n st : Int} (h : d.stopped = true) : pulseV d n st = (d, n) := by unfold pulseV; rw [if_pos h]
theorem pv_hit {d : VDev} {n st : Int} (h : d.stopped = false) (h1 : d.preset ≠ -1 ∧ untilV d st ≤ n) : pulseV d n st = (⟨d.stack, addD d.stack d.shows (st * untilV d st), d.preset, true, d.tickets⟩, n - untilV d st) := by unfold pulseV; rw [if_neg (by simp [h]), if_pos h1]
theorem pv_on {d : VDev} {n st : Int} (h : d.stopped = false) (h1 : ¬ (d.preset ≠ -1 ∧ untilV d st ≤ n)) : pulseV d n st = (⟨d.stack, addD d.stack d.shows (st * n), d.preset, d.stopped, d.tickets⟩, 0) := by unfold pulseV; rw [if_neg (by simp [h]), if_neg h1]
def doV (d : VDev) (a : VAct) : VDev × Int × Int :=
  if a.kind = 1 then ((pulseV d a.n 1).1, (pulseV d a.n 1).2, 0) else if a.kind = 2 then ((pulseV d a.n (-1)).1, (pulseV d a.n (-1)).2, 0)
  else if a.kind = 3 then (if a.n ≠ -1 ∧ ¬ (0 ≤ a.n ∧ a.n ≤ size d.stack - 1) then (d, 0, 2) else (⟨d.stack, d.shows, a.n, decide (a.n = d.v), d.tickets⟩, 0, 0))
  else if a.kind = 4 then (⟨d.stack, zDig, d.preset, decide (d.preset = 0), d.tickets⟩, 0, 0)
  else if a.kind = 5 then (if d.tickets = 1000000 then (d, 0, 4) else (⟨d.stack, d.shows, d.preset, d.stopped, d.tickets + 1⟩, 0, 0))
  else (d, 0, 0)
theorem do_1 {d : VDev} {a : VAct} (h : a.kind = 1) : doV d a = ((pulseV d a.n 1).1, (pulseV d a.n 1).2, 0) := by unfold doV; rw [if_pos h]
theorem do_2 {d : VDev} {a : VAct} (h : a.kind = 2) : doV d a = ((pulseV d a.n (-1)).1, (pulseV d a.n (-1)).2, 0) := by unfold doV; rw [if_neg (by omega), if_pos h]
theorem do_3n {d : VDev} {a : VAct} (h : a.kind = 3) (h1 : a.n ≠ -1 ∧ ¬ (0 ≤ a.n ∧ a.n ≤ size d.stack - 1)) : doV d a = (d, 0, 2) := by unfold doV; rw [if_neg (by omega), if_neg (by omega), if_pos h, if_pos h1]
theorem do_3 {d : VDev} {a : VAct} (h : a.kind = 3) (h1 : ¬ (a.n ≠ -1 ∧ ¬ (0 ≤ a.n ∧ a.n ≤ size d.stack - 1))) : doV d a = (⟨d.stack, d.shows, a.n, decide (a.n = d.v), d.tickets⟩, 0, 0) := by unfold doV; rw [if_neg (by omega), if_neg (by omega), if_pos h, if_neg h1]
theorem do_4 {d : VDev} {a : VAct} (h : a.kind = 4) : doV d a = (⟨d.stack, zDig, d.preset, decide (d.preset = 0), d.tickets⟩, 0, 0) := by unfold doV; rw [if_neg (by omega), if_neg (by omega), if_neg (by omega), if_pos h]
theorem do_5n {d : VDev} {a : VAct} (h : a.kind = 5) (h1 : d.tickets = 1000000) : doV d a = (d, 0, 4) := by unfold doV; rw [if_neg (by omega), if_neg (by omega), if_neg (by omega), if_neg (by omega), if_pos h, if_pos h1]
theorem do_5 {d : VDev} {a : VAct} (h : a.kind = 5) (h1 : ¬ d.tickets = 1000000) : doV d a = (⟨d.stack, d.shows, d.preset, d.stopped, d.tickets + 1⟩, 0, 0) := by unfold doV; rw [if_neg (by omega), if_neg (by omega), if_neg (by omega), if_neg (by omega), if_pos h, if_neg h1]
theorem do_0 {d : VDev} {a : VAct} (h1 : ¬ a.kind = 1) (h2 : ¬ a.kind = 2) (h3 : ¬ a.kind = 3) (h4 : ¬ a.kind = 4) (h5 : ¬ a.kind = 5) : doV d a = (d, 0, 0) := by unfold doV; rw [if_neg h1, if_neg h2, if_neg h3, if_neg h4, if_neg h5]
theorem act_n {a : VAct} (h : validAct a = true) : (a.kind = 1 ∨ a.kind = 2 → 0 ≤ a.n ∧ a.n ≤ 1000000000000) ∧ (a.kind = 3 → -1 ≤ a.n ∧ a.n ≤ 1000000000000) := by
  unfold validAct at h; rw [decide_eq_true_iff] at h; omega
theorem sizeS {d : VDev} (h : DevOk d) : size d.stack = prod d.stack := h.stk.size_
/-- What stands for a device that is none. -/
def newDev (s : List Int) : VDev × Int := if validStack s = true then (⟨s, zDig, -1, false, 0⟩, 0) else (zDev, 1)
theorem nwd_t {s : List Int} (h : validStack s = true) : newDev s = (⟨s, zDig, -1, false, 0⟩, 0) := by unfold newDev; rw [if_pos h]
theorem nwd_f {s : List Int} (h : validStack s = false) : newDev s = (zDev, 1) := by unfold newDev; rw [if_neg (by simp [h])]
def doActV (d : VDev) (a : VAct) : VDev × Int × Int := if validDev d = true ∧ validAct a = true then (if (doV d a).2.2 ≠ 0 then (zDev, 0, (doV d a).2.2) else doV d a) else (zDev, 0, 1)
theorem da_bad {d : VDev} {a : VAct} (h : ¬ (validDev d = true ∧ validAct a = true)) : doActV d a = (zDev, 0, 1) := by unfold doActV; rw [if_neg h]
theorem da_no {d : VDev} {a : VAct} (h : validDev d = true ∧ validAct a = true) (h1 : (doV d a).2.2 ≠ 0) : doActV d a = (zDev, 0, (doV d a).2.2) := by unfold doActV; rw [if_pos h, if_pos h1]
theorem da_ok {d : VDev} {a : VAct} (h : validDev d = true ∧ validAct a = true) (h1 : ¬ (doV d a).2.2 ≠ 0) : doActV d a = doV d a := by unfold doActV; rw [if_pos h, if_neg h1]
def pulsesV (d : VDev) : Int × Int := if validDev d = false then (0, 1) else if d.preset = -1 then (0, 6) else if d.stopped = true then (0, 0) else (untilV d 1, 0)
theorem nil_of_none {A : Option Addr} {w : World} {base : Nat} {s : List Int} (h : RdB base w A (s.flatMap (eI .u8))) (hA : A.isNone = true) : s = [] := by
  cases s with
  | nil => rfl
  | cons x t =>
    obtain ⟨ad, rfl, _⟩ := h 0 (.int .u8 x) rfl
    cases hA
end Go.W
namespace Go.W
open Go Go.Sx
theorem un_t {d : VDev} : untilV d (bif true then -1 else 1) = until1 (-(d.preset - val d.stack d.shows.l)) (prod d.stack) := by
  unfold untilV VDev.v; rw [cond_true, Int.neg_mul, Int.one_mul]
theorem un_f {d : VDev} : untilV d (bif false then -1 else 1) = until1 (d.preset - val d.stack d.shows.l) (prod d.stack) := by
  unfold untilV VDev.v; rw [cond_false, Int.one_mul]
end Go.W
namespace Go.W
open Go Go.Sx
theorem pu_bad {d : VDev} (h : validDev d = false) : pulsesV d = (0, 1) := by unfold pulsesV; rw [if_pos h]
theorem pu_neg {d : VDev} (ha : Nums 255 d.shows.l) (h : validDev d = true) (hp : d.preset < 0) : pulsesV d = (0, 6) := by
  have := (devOk ha h).preset
  unfold pulsesV; rw [if_neg (by simp [h]), if_pos (by omega)]
theorem pu_stop {d : VDev} (h : validDev d = true) (hp : ¬ d.preset = -1) (h2 : d.stopped = true) : pulsesV d = (0, 0) := by
  unfold pulsesV; rw [if_neg (by simp [h]), if_neg hp, if_pos h2]
theorem pu_on {d : VDev} (h : validDev d = true) (hp : ¬ d.preset = -1) (h2 : d.stopped = false) : pulsesV d = (untilV d 1, 0) := by
  unfold pulsesV; rw [if_neg (by simp [h]), if_neg hp, if_neg (by simp [h2])]
end Go.W
namespace Go.W
open Go Go.Sx
def untilW (d : VDev) (st : Int) : Int := if d.preset < 0 then -1 else untilV d st
theorem uw {d : VDev} {st : Int} : (d.preset < 0 ∧ untilW d st = -1) ∨ (0 ≤ d.preset ∧ untilW d st = untilV d st) := by
  unfold untilW; split <;> omega
theorem uw_pos {d : VDev} {st : Int} (h : 0 ≤ d.preset) : untilW d st = untilV d st := by unfold untilW; rw [if_neg (by omega)]
theorem until_bd {d : VDev} (h : DevOk d) (st : Int) : 1 ≤ untilV d st ∧ untilV d st ≤ prod d.stack := until_pos (by have := h.stk.pos; omega)
end Go.W
namespace Go.W
open Go Go.Sx
/-- Marks, one behind the other. -/
def mk8 (n : Nat) (k : Int) : List Int := (List.range n).map fun (i : Nat) => (k + (i : Int)) % 256
theorem mk8_len (n : Nat) (k : Int) : (mk8 n k).length = n := by simp [mk8]
theorem mk8_at {n : Nat} {k : Int} {i : Nat} (h : i < n) : (mk8 n k).getD i 0 = (k + (i : Int)) % 256 := by simp [mk8, List.getD, h]
theorem do_stack (d : VDev) (a : VAct) : (doV d a).1.stack = d.stack := by
  unfold doV pulseV
  repeat' split
  all_goals rfl
theorem da_len (d : VDev) (a : VAct) : (doActV d a).1.stack.length ≤ d.stack.length := by
  unfold doActV
  split
  · split
    · simp [zDev]
    · rw [do_stack]; exact Nat.le_refl _
  · simp [zDev]
theorem nd_len (s : List Int) : (newDev s).1.stack.length ≤ s.length := by
  unfold newDev; split <;> simp [zDev]
end Go.W
