/- Stacks and digits in plain numbers. -/
import Derived.Test.YthfbmkfbmmjchaaDoorFw
namespace Go.W
open Go.Sx
def size (s : List Int) : Int := s.foldl (fun n b => min (n * b) 1000000000001) 1
theorem size_snoc (s : List Int) (k : Nat) (h : k < s.length) : size (s.take (k + 1)) = min (size (s.take k) * s.getD k 0) 1000000000001 := by
  unfold size
  rw [List.take_succ_eq_append_getElem h, List.foldl_append]
  simp [List.getD, h]
theorem size_nil : size [] = 1 := rfl
theorem size_bd {s : List Int} (hs : Nums 255 s) (k : Nat) : 0 ≤ size (s.take k) ∧ size (s.take k) ≤ 1000000000001 := by
  induction k with
  | zero => simp [size]
  | succ k ih =>
    by_cases h : k < s.length
    · rw [size_snoc s k h]
      have := hs.at_ (by omega) k
      have : 0 ≤ size (s.take k) * s.getD k 0 := Int.mul_nonneg ih.1 this.1
      omega
    · rw [List.take_of_length_le (by omega)] at ih ⊢
      exact ih
theorem size_mul {s : List Int} (hs : Nums 255 s) (k : Nat) : 0 ≤ size (s.take k) * s.getD k 0 ∧ size (s.take k) * s.getD k 0 ≤ 255000000000255 := by
  have h1 := size_bd hs k
  have h2 := hs.at_ (by omega) k
  refine ⟨Int.mul_nonneg h1.1 h2.1, ?_⟩
  calc size (s.take k) * s.getD k 0 ≤ 1000000000001 * s.getD k 0 := Int.mul_le_mul_of_nonneg_right h1.2 h2.1
    _ ≤ 1000000000001 * 255 := Int.mul_le_mul_of_nonneg_left h2.2 (by omega)
    _ = 255000000000255 := by rfl
end Go.W
namespace Go.W
open Go.Sx
def validStack (s : List Int) : Bool := decide (1 ≤ s.length ∧ s.length ≤ 8 ∧ (∀ i, i < s.length → 2 ≤ s.getD i 0 ∧ s.getD i 0 ≤ 100) ∧ size s ≤ 1000000000000)
theorem vs_len {s : List Int} (h : ¬ (1 ≤ (s.length : Int) ∧ (s.length : Int) ≤ 8)) : false = validStack s := by
  unfold validStack; symm; rw [decide_eq_false_iff_not]; omega
theorem vs_base {s : List Int} {k : Nat} (hk : k < s.length) (h : ¬ (2 ≤ s.getD k 0 ∧ s.getD k 0 ≤ 100)) : false = validStack s := by
  unfold validStack; symm; rw [decide_eq_false_iff_not]; rintro ⟨_, _, h3, _⟩; exact h (h3 k hk)
theorem vs_size {s : List Int} (h : ¬ size s ≤ 1000000000000) : false = validStack s := by
  unfold validStack; symm; rw [decide_eq_false_iff_not]; omega
theorem vs_yes {s : List Int} (h : 1 ≤ (s.length : Int) ∧ (s.length : Int) ≤ 8) (h3 : ∀ i, i < s.length → 2 ≤ s.getD i 0 ∧ s.getD i 0 ≤ 100) (h4 : size s ≤ 1000000000000) : true = validStack s := by
  unfold validStack; symm; rw [decide_eq_true_iff]; exact ⟨by omega, by omega, h3, h4⟩
theorem all_snoc {p : Nat → Prop} {k : Nat} (h : ∀ i, i < k → p i) (hk : p k) : ∀ i, i < k + 1 → p i := fun i hi => by
  rcases Nat.lt_or_ge i k with h1 | h1
  · exact h i h1
  · rwa [show i = k by omega]
end Go.W
namespace Go.W
open Go.Sx
structure VAct where
  kind : Int
  n : Int
def encA (a : VAct) : List Value := [.int .i8 a.kind, .int .i64 a.n]
theorem encA_len : ∀ a, (encA a).length = 2 := fun _ => rfl
def zA : VAct := ⟨0, 0⟩
def validAct (a : VAct) : Bool := decide ((a.kind = 1 ∨ a.kind = 2) ∧ 0 ≤ a.n ∧ a.n ≤ 1000000000000 ∨ a.kind = 3 ∧ -1 ≤ a.n ∧ a.n ≤ 1000000000000 ∨ (a.kind = 4 ∨ a.kind = 5) ∧ a.n = 0)
theorem dec_t {p : Prop} [Decidable p] (h : p) : true = decide p := by simp [h]
theorem dec_f {p : Prop} [Decidable p] (h : ¬ p) : false = decide p := by simp [h]
end Go.W
