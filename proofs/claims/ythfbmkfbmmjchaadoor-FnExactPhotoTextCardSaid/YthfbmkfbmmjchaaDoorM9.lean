/- Marks in lists of tickets and of notes. -/
import Derived.Test.YthfbmkfbmmjchaaDoorM8
set_option linter.unusedVariables false
set_option linter.unusedSimpArgs false
namespace Go.W
open Go Go.Sx
def digK (k : Int) : Dig := ⟨(k + ((0 : Nat) : Int)) % 256, (k + ((1 : Nat) : Int)) % 256, (k + ((2 : Nat) : Int)) % 256, (k + ((3 : Nat) : Int)) % 256, (k + ((4 : Nat) : Int)) % 256, (k + ((5 : Nat) : Int)) % 256, (k + ((6 : Nat) : Int)) % 256, (k + ((7 : Nat) : Int)) % 256⟩
def tk (k : Int) (i : Nat) : VTic := ⟨k + 10 * (i : Int), digK (k + 10 * (i : Int) + 1), IntKind.u16.wrap (k + 10 * (i : Int) + 1 + ((8 : Nat) : Int))⟩
def mkT (n : Nat) (k : Int) : List VTic := (List.range n).map (tk k)
theorem mkT_len (n : Nat) (k : Int) : (mkT n k).length = n := by simp [mkT]
theorem mkT_at {n : Nat} {k : Int} {i : Nat} (h : i < n) : (mkT n k).getD i zT = tk k i := by simp [mkT, List.getD, h]
theorem mkT_cell {n : Nat} {k : Int} {i j : Nat} (h : i < n) (hj : j < 10) : ((mkT n k).flatMap encT)[i * 10 + j]? = (encT (tk k i))[j]? := by
  rw [flat_get encT_len zT _ _ _ (by rw [mkT_len]; exact h) hj, mkT_at h]
theorem mkT_dig {n : Nat} {k : Int} {i j q : Nat} (h : i < n) (hj : j < 8) (hq : q = i * 10 + 1 + j) : ((mkT n k).flatMap encT)[q]? = some (.int .u8 ((k + 10 * i + 1 + j) % 256)) := by
  rw [hq, show i * 10 + 1 + j = i * 10 + (1 + j) by omega, mkT_cell h (by omega)]
  match j, hj with
  | 0, _ | 1, _ | 2, _ | 3, _ | 4, _ | 5, _ | 6, _ | 7, _ => rfl
def nk (k : Int) (i : Nat) : VNote := ⟨⟨IntKind.i8.wrap (k + 11 * (i : Int)), k + 11 * (i : Int) + 1⟩, digK (k + 11 * (i : Int) + 1 + 1), k + 11 * (i : Int) + 1 + 1 + ((8 : Nat) : Int)⟩
def mkN (n : Nat) (k : Int) : List VNote := (List.range n).map (nk k)
theorem mkN_len (n : Nat) (k : Int) : (mkN n k).length = n := by simp [mkN]
theorem mkN_at {n : Nat} {k : Int} {i : Nat} (h : i < n) : (mkN n k).getD i zN = nk k i := by simp [mkN, List.getD, h]
theorem mkN_cell {n : Nat} {k : Int} {i j : Nat} (h : i < n) (hj : j < 11) : ((mkN n k).flatMap encN)[i * 11 + j]? = (encN (nk k i))[j]? := by
  rw [flat_get encN_len zN _ _ _ (by rw [mkN_len]; exact h) hj, mkN_at h]
theorem mkN_dig {n : Nat} {k : Int} {i j q : Nat} (h : i < n) (hj : j < 8) (hq : q = i * 11 + 2 + j) : ((mkN n k).flatMap encN)[q]? = some (.int .u8 ((k + 11 * i + 1 + 1 + j) % 256)) := by
  rw [hq, show i * 11 + 2 + j = i * 11 + (2 + j) by omega, mkN_cell h (by omega)]
  match j, hj with
  | 0, _ | 1, _ | 2, _ | 3, _ | 4, _ | 5, _ | 6, _ | 7, _ => rfl
theorem rv_notes_len {d : VDev} {l : List VAct} (hk : OkDev d) : (runV d l).2.1.length ≤ 60 := (run_notes hk).1
theorem rv_tics_len (d : VDev) (l : List VAct) : (runV d l).2.2.1.length ≤ 60 := by
  unfold runV
  split
  · simp
  · rename_i h
    have hn := (ask_zero h).2.2
    split
    · simp
    · split
      · simp
      · show (ticsL d l l.length).length ≤ 60
        have := ticsL_len d l l.length
        omega
end Go.W
