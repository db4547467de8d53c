/- Stories of a log in plain numbers: what fits, and what is best from a reading on. -/
import Derived.Test.YthfbmkfbmmjchaaDoorM14
set_option linter.unusedVariables false
set_option linter.unusedSimpArgs false
namespace Go.W
open Go Go.Sx
def validFlow (f : VP) : Bool := decide (0 ≤ f.a ∧ f.a ≤ f.b ∧ f.b ≤ 1000000)
theorem flow_of {f : VP} (h : validFlow f = true) : 0 ≤ f.a ∧ f.a ≤ f.b ∧ f.b ≤ 1000000 := by unfold validFlow at h; exact of_decide_eq_true h
def lowF (f a b : VP) : Int := f.a * (b.a - a.a)
def highF (f a b : VP) : Int := f.b * (b.a - a.a)
def fitV (z : Int) (f a b : VP) : Bool := decide (lowF f a b + (b.b - a.b - lowF f a b) % z ≤ highF f a b)
theorem mul_bd {x d : Int} (hx : 0 ≤ x ∧ x ≤ 1000000) (hd : -100000 ≤ d ∧ d ≤ 100000) : -100000000000 ≤ x * d ∧ x * d ≤ 100000000000 := by
  have h1 : x * d ≤ x * 100000 := Int.mul_le_mul_of_nonneg_left hd.2 hx.1
  have h2 : x * -100000 ≤ x * d := Int.mul_le_mul_of_nonneg_left hd.1 hx.1
  omega
theorem mod_sub_mod (a c z : Int) : (a % z - c) % z = (a - c) % z := by
  rw [Int.emod_def a z, show a - z * (a / z) - c = (a - c) + z * (-(a / z)) by rw [Int.mul_neg]; omega, Int.add_mul_emod_self_left]
theorem low_bd {f a b : VP} (hf : validFlow f = true) (ha : 0 ≤ a.a ∧ a.a ≤ 100000) (hb : 0 ≤ b.a ∧ b.a ≤ 100000) : -100000000000 ≤ lowF f a b ∧ lowF f a b ≤ 100000000000 := by
  have h := flow_of hf
  exact mul_bd (by omega) (by omega)
theorem high_bd {f a b : VP} (hf : validFlow f = true) (ha : 0 ≤ a.a ∧ a.a ≤ 100000) (hb : 0 ≤ b.a ∧ b.a ≤ 100000) : -100000000000 ≤ highF f a b ∧ highF f a b ≤ 100000000000 := by
  have h := flow_of hf
  exact mul_bd (by omega) (by omega)
theorem md_bd {z : Int} (h : 1 ≤ z) (a : Int) : 0 ≤ a % z ∧ a % z < z := ⟨Int.emod_nonneg a (by omega), Int.emod_lt_of_pos a (by omega)⟩
theorem fit_t {z : Int} {f a b : VP} (h : lowF f a b + ((b.b - a.b) % z - lowF f a b) % z ≤ highF f a b) : true = fitV z f a b := by
  rw [mod_sub_mod] at h; exact (decide_eq_true h).symm
theorem fit_f {z : Int} {f a b : VP} (h : ¬ lowF f a b + ((b.b - a.b) % z - lowF f a b) % z ≤ highF f a b) : false = fitV z f a b := by
  rw [mod_sub_mod] at h; exact (decide_eq_false h).symm
/-- What is known of a reading of a valid log. -/
def OkRd (z : Int) (r : VP) : Prop := (0 ≤ r.a ∧ r.a ≤ 100000) ∧ 0 ≤ r.b ∧ r.b ≤ z - 1
theorem Log.rd {s : List Int} {l : List VP} (h : Log s l) {i : Nat} (hi : i < l.length) : OkRd (size s) (l.getD i zP) := ⟨h.day i hi, h.val i hi⟩
def fitsF (s : List Int) (l : List VP) (f : VP) (i k : Nat) : Bool := fitV (size s) f (l.getD i zP) (l.getD k zP)
def askS (s : List Int) (l : List VP) (f : VP) : Bool := validLog s l && validFlow f
/-! the best from a reading on -/
structure VR where
  cost : Int
  breaks : Int
  next : Int
def encR (r : VR) : List Value := [.int .i64 r.cost, .int .i64 r.breaks, .int .i64 r.next]
theorem encR_len : ∀ r, (encR r).length = 3 := fun _ => rfl
def zR : VR := ⟨0, 0, 0⟩
def brk (b : Bool) : Int := if b = true then 0 else 1
theorem brk_t : brk true = 0 := rfl
theorem brk_f : brk false = 1 := rfl
theorem brk_bd (b : Bool) : 0 ≤ brk b ∧ brk b ≤ 1 := by cases b <;> decide
def candC (fit : Nat → Nat → Bool) (n d : Nat) (L : List VR) (m : Nat) : Int := (m : Int) + 2 * brk (fit (n - 1 - d) (n - d + m)) + (L.getD (d - 1 - m) zR).cost
def candB (fit : Nat → Nat → Bool) (n d : Nat) (L : List VR) (m : Nat) : Int := brk (fit (n - 1 - d) (n - d + m)) + (L.getD (d - 1 - m) zR).breaks
def inn (fit : Nat → Nat → Bool) (n d : Nat) (L : List VR) : Nat → VR
  | 0 => ⟨d, 0, -1⟩
  | m + 1 => if candC fit n d L m < (inn fit n d L m).cost ∨ candC fit n d L m = (inn fit n d L m).cost ∧ candB fit n d L m < (inn fit n d L m).breaks then ⟨candC fit n d L m, candB fit n d L m, ((n - d + m : Nat) : Int)⟩ else inn fit n d L m
theorem inn_y {fit : Nat → Nat → Bool} {n d : Nat} {L : List VR} {m : Nat} (h : candC fit n d L m < (inn fit n d L m).cost ∨ candC fit n d L m = (inn fit n d L m).cost ∧ candB fit n d L m < (inn fit n d L m).breaks) : inn fit n d L (m + 1) = ⟨candC fit n d L m, candB fit n d L m, ((n - d + m : Nat) : Int)⟩ := by rw [inn, if_pos h]
theorem inn_n {fit : Nat → Nat → Bool} {n d : Nat} {L : List VR} {m : Nat} (h : ¬ (candC fit n d L m < (inn fit n d L m).cost ∨ candC fit n d L m = (inn fit n d L m).cost ∧ candB fit n d L m < (inn fit n d L m).breaks)) : inn fit n d L (m + 1) = inn fit n d L m := by rw [inn, if_neg h]
theorem inn_cost (fit : Nat → Nat → Bool) (n d : Nat) (L : List VR) (m : Nat) : (inn fit n d L (m + 1)).cost = min (inn fit n d L m).cost (candC fit n d L m) := by
  by_cases h : candC fit n d L m < (inn fit n d L m).cost ∨ candC fit n d L m = (inn fit n d L m).cost ∧ candB fit n d L m < (inn fit n d L m).breaks
  · rw [inn_y h]; dsimp only; omega
  · rw [inn_n h]; omega
def rl (fit : Nat → Nat → Bool) (n : Nat) : Nat → List VR
  | 0 => []
  | d + 1 => rl fit n d ++ [inn fit n d (rl fit n d) d]
theorem rl_len (fit : Nat → Nat → Bool) (n : Nat) : ∀ d, (rl fit n d).length = d
  | 0 => rfl
  | d + 1 => by rw [rl, List.length_append, rl_len fit n d]; rfl
theorem snocR_at {L : List VR} {r : VR} {i : Nat} (h : i < L.length) : (L ++ [r]).getD i zR = L.getD i zR := by
  simp only [List.getD]; rw [List.getElem?_append_left h]
theorem snocR_last {L : List VR} {r : VR} : (L ++ [r]).getD L.length zR = r := by simp [List.getD]
/-- Bounds of what stands in such a list. -/
def LBd (n : Nat) (L : List VR) : Prop := ∀ j, j < L.length → (0 ≤ (L.getD j zR).cost ∧ (L.getD j zR).cost ≤ (j : Int)) ∧ (0 ≤ (L.getD j zR).breaks ∧ (L.getD j zR).breaks ≤ (j : Int)) ∧ ((L.getD j zR).next = -1 ∨ (n : Int) - 1 - j < (L.getD j zR).next ∧ (L.getD j zR).next < n)
theorem cand_bd {fit : Nat → Nat → Bool} {n d : Nat} {L : List VR} (h : LBd n L) (hl : L.length = d) {m : Nat} (hm : m < d) : 0 ≤ candC fit n d L m ∧ candC fit n d L m ≤ (d : Int) + 1 ∧ 0 ≤ candB fit n d L m ∧ candB fit n d L m ≤ (d : Int) := by
  have h1 := h (d - 1 - m) (by omega)
  have h2 := brk_bd (fit (n - 1 - d) (n - d + m))
  unfold candC candB; omega
theorem inn_bd {fit : Nat → Nat → Bool} {n d : Nat} {L : List VR} (h : LBd n L) (hl : L.length = d) (hd : d < n) : ∀ m, m ≤ d → (0 ≤ (inn fit n d L m).cost ∧ (inn fit n d L m).cost ≤ (d : Int)) ∧ (0 ≤ (inn fit n d L m).breaks ∧ (inn fit n d L m).breaks ≤ (d : Int)) ∧ ((inn fit n d L m).next = -1 ∨ (n : Int) - 1 - d < (inn fit n d L m).next ∧ (inn fit n d L m).next < n)
  | 0, _ => ⟨⟨by show (0 : Int) ≤ (d : Int); omega, by show (d : Int) ≤ (d : Int); omega⟩, ⟨by show (0 : Int) ≤ 0; omega, by show (0 : Int) ≤ (d : Int); omega⟩, .inl rfl⟩
  | m + 1, hm => by
    have ih := inn_bd (fit := fit) h hl hd m (by omega)
    have hc := cand_bd (fit := fit) h hl (m := m) (by omega)
    by_cases hq : candC fit n d L m < (inn fit n d L m).cost ∨ candC fit n d L m = (inn fit n d L m).cost ∧ candB fit n d L m < (inn fit n d L m).breaks
    · rw [inn_y hq]; dsimp only; omega
    · rw [inn_n hq]; exact ih
theorem rl_bd (fit : Nat → Nat → Bool) (n : Nat) : ∀ d, d ≤ n → LBd n (rl fit n d)
  | 0, _ => fun j hj => by simp [rl] at hj
  | d + 1, hd => fun j hj => by
    have ih := rl_bd fit n d (by omega)
    have hl := rl_len fit n d
    rw [rl_len] at hj
    rw [rl]
    rcases Nat.lt_or_ge j d with h1 | h1
    · rw [snocR_at (by omega)]; exact ih j (by omega)
    · obtain rfl : j = d := by omega
      have e : (rl fit n j ++ [inn fit n j (rl fit n j) j]).getD j zR = inn fit n j (rl fit n j) j := by
        conv => lhs; rw [show j = (rl fit n j).length from hl.symm]
        rw [rl_len]; have := snocR_last (L := rl fit n j) (r := inn fit n j (rl fit n j) j); rwa [hl] at this
      rw [e]; exact inn_bd ih hl (by omega) j (Nat.le_refl _)
/-- The list as it stands in memory while it is filled from behind. -/
def outR (fit : Nat → Nat → Bool) (n d : Nat) : List VR := List.replicate (n - d) zR ++ (rl fit n d).reverse
theorem outR_len {fit : Nat → Nat → Bool} {n d : Nat} (h : d ≤ n) : (outR fit n d).length = n := by unfold outR; simp [rl_len]; omega
theorem outR_at {fit : Nat → Nat → Bool} {n d k : Nat} (hd : d ≤ n) (h1 : n - d ≤ k) (h2 : k < n) : (outR fit n d).getD k zR = (rl fit n d).getD (n - 1 - k) zR := by
  unfold outR
  have hl := rl_len fit n d
  simp only [List.getD]
  rw [List.getElem?_append_right (by simp; omega), List.length_replicate, List.getElem?_reverse (by omega), show (rl fit n d).length - 1 - (k - (n - d)) = n - 1 - k by omega]
theorem outR_set {fit : Nat → Nat → Bool} {n d : Nat} (hd : d < n) : (outR fit n d).set (n - 1 - d) (inn fit n d (rl fit n d) d) = outR fit n (d + 1) := by
  unfold outR
  rw [rl, List.reverse_append]
  obtain ⟨j, hj⟩ : ∃ j, n - d = j + 1 := ⟨n - d - 1, by omega⟩
  rw [hj, show n - (d + 1) = j by omega, show n - 1 - d = j by omega, List.replicate_succ', List.append_assoc, List.set_append_right _ _ (by simp), List.length_replicate, Nat.sub_self]
  rfl
theorem outR_put {fit : Nat → Nat → Bool} {n d i : Nat} {v : List Value} (hd : d < n) (hi : i = (n - 1 - d) * 3) (hv : v = encR (inn fit n d (rl fit n d) d)) : put ((outR fit n d).flatMap encR) i v = (outR fit n (d + 1)).flatMap encR := by
  subst hi hv
  rw [flat_put encR_len _ _ _ (by rw [outR_len (by omega)]; omega), outR_set hd]
theorem outR_zero {fit : Nat → Nat → Bool} {zs : List Value} {n : Nat} (h : zs = encR zR) : zerosL zs n = (outR fit n 0).flatMap encR := by
  subst h; rw [zeros_flat encR_len zR (by omega) n]; unfold outR; simp [rl]
def rstL (fit : Nat → Nat → Bool) (n : Nat) : List VR := outR fit n n
theorem rstL_len (fit : Nat → Nat → Bool) (n : Nat) : (rstL fit n).length = n := outR_len (Nat.le_refl _)
theorem rst_bd {fit : Nat → Nat → Bool} {n i : Nat} (h : i < n) : (0 ≤ ((rstL fit n).getD i zR).cost ∧ ((rstL fit n).getD i zR).cost ≤ (n : Int) - 1 - i) ∧ (0 ≤ ((rstL fit n).getD i zR).breaks ∧ ((rstL fit n).getD i zR).breaks ≤ (n : Int)) ∧ (((rstL fit n).getD i zR).next = -1 ∨ (i : Int) < ((rstL fit n).getD i zR).next ∧ ((rstL fit n).getD i zR).next < n) := by
  unfold rstL
  rw [outR_at (Nat.le_refl _) (by omega) h]
  have := rl_bd fit n n (Nat.le_refl _) (n - 1 - i) (by rw [rl_len]; omega)
  omega
/-! the best of all -/
def bstV (fit : Nat → Nat → Bool) (n : Nat) : Nat → VR
  | 0 => ⟨0, 0, -1⟩
  | m + 1 => if (bstV fit n m).next < 0 ∨ (m : Int) + ((rstL fit n).getD m zR).cost < (bstV fit n m).cost ∨ (m : Int) + ((rstL fit n).getD m zR).cost = (bstV fit n m).cost ∧ ((rstL fit n).getD m zR).breaks < (bstV fit n m).breaks then ⟨(m : Int) + ((rstL fit n).getD m zR).cost, ((rstL fit n).getD m zR).breaks, m⟩ else bstV fit n m
theorem bst_y {fit : Nat → Nat → Bool} {n m : Nat} (h : (bstV fit n m).next < 0 ∨ (m : Int) + ((rstL fit n).getD m zR).cost < (bstV fit n m).cost ∨ (m : Int) + ((rstL fit n).getD m zR).cost = (bstV fit n m).cost ∧ ((rstL fit n).getD m zR).breaks < (bstV fit n m).breaks) : bstV fit n (m + 1) = ⟨(m : Int) + ((rstL fit n).getD m zR).cost, ((rstL fit n).getD m zR).breaks, m⟩ := by rw [bstV, if_pos h]
theorem bst_n {fit : Nat → Nat → Bool} {n m : Nat} (h : ¬ ((bstV fit n m).next < 0 ∨ (m : Int) + ((rstL fit n).getD m zR).cost < (bstV fit n m).cost ∨ (m : Int) + ((rstL fit n).getD m zR).cost = (bstV fit n m).cost ∧ ((rstL fit n).getD m zR).breaks < (bstV fit n m).breaks)) : bstV fit n (m + 1) = bstV fit n m := by rw [bstV, if_neg h]
theorem bst_bd {fit : Nat → Nat → Bool} {n : Nat} : ∀ m, m ≤ n → 0 ≤ (bstV fit n m).cost ∧ (bstV fit n m).cost ≤ n ∧ 0 ≤ (bstV fit n m).breaks ∧ (bstV fit n m).breaks ≤ n ∧ -1 ≤ (bstV fit n m).next ∧ (bstV fit n m).next < m
  | 0, _ => by simp [bstV]
  | m + 1, hm => by
    have ih := bst_bd (fit := fit) (n := n) m (by omega)
    have hr := rst_bd (fit := fit) (n := n) (i := m) (by omega)
    by_cases hq : (bstV fit n m).next < 0 ∨ (m : Int) + ((rstL fit n).getD m zR).cost < (bstV fit n m).cost ∨ (m : Int) + ((rstL fit n).getD m zR).cost = (bstV fit n m).cost ∧ ((rstL fit n).getD m zR).breaks < (bstV fit n m).breaks
    · rw [bst_y hq]; dsimp only; omega
    · rw [bst_n hq]; omega
/-! what comes ahead of a reading -/
def finV (fit : Nat → Nat → Bool) (i : Nat) (L : List Int) : Nat → Int
  | 0 => i
  | k + 1 => min (finV fit i L k) (L.getD k 0 + (((i - k - 1 : Nat) : Int) + 2 * brk (fit k i)))
def fl (fit : Nat → Nat → Bool) : Nat → List Int
  | 0 => []
  | i + 1 => fl fit i ++ [finV fit i (fl fit i) i]
theorem fl_len (fit : Nat → Nat → Bool) : ∀ i, (fl fit i).length = i
  | 0 => rfl
  | i + 1 => by rw [fl, List.length_append, fl_len fit i]; rfl
theorem snocI_at {L : List Int} {r : Int} {i : Nat} (h : i < L.length) : (L ++ [r]).getD i 0 = L.getD i 0 := by
  simp only [List.getD]; rw [List.getElem?_append_left h]
theorem fin_bd {fit : Nat → Nat → Bool} {i : Nat} {L : List Int} (h : ∀ k, k < i → 0 ≤ L.getD k 0 ∧ L.getD k 0 ≤ k) : ∀ k, k ≤ i → 0 ≤ finV fit i L k ∧ finV fit i L k ≤ i
  | 0, _ => by simp [finV]
  | k + 1, hk => by
    have ih := fin_bd (fit := fit) h k (by omega)
    have h1 := h k (by omega)
    have h2 := brk_bd (fit k i)
    rw [finV]; omega
theorem fl_at {fit : Nat → Nat → Bool} {k : Nat} : ∀ {i : Nat}, k < i → (fl fit i).getD k 0 = finV fit k (fl fit k) k
  | i + 1, h => by
    have hl := fl_len fit i
    rw [fl]
    rcases Nat.lt_or_ge k i with h1 | h1
    · rw [snocI_at (by omega)]; exact fl_at h1
    · obtain rfl : k = i := by omega
      simp only [List.getD]
      rw [List.getElem?_append_right (by omega)]; simp [hl]
theorem fl_bd (fit : Nat → Nat → Bool) : ∀ i k, k < i → 0 ≤ (fl fit i).getD k 0 ∧ (fl fit i).getD k 0 ≤ k
  | i + 1, k, h => by
    have ih := fl_bd fit i
    have hl := fl_len fit i
    rcases Nat.lt_or_ge k i with h1 | h1
    · rw [fl, snocI_at (by omega)]; exact ih k h1
    · obtain rfl : k = i := by omega
      rw [fl_at (Nat.lt_succ_self k)]
      exact fin_bd ih k (Nat.le_refl _)
def sureL (fit : Nat → Nat → Bool) (n : Nat) : Nat → List Int
  | 0 => []
  | i + 1 => if (bstV fit n n).cost < finV fit i (fl fit i) i + ((rstL fit n).getD i zR).cost then sureL fit n i ++ [(i : Int)] else sureL fit n i
theorem sure_y {fit : Nat → Nat → Bool} {n i : Nat} (h : (bstV fit n n).cost < finV fit i (fl fit i) i + ((rstL fit n).getD i zR).cost) : sureL fit n (i + 1) = sureL fit n i ++ [(i : Int)] := by rw [sureL, if_pos h]
theorem sure_n {fit : Nat → Nat → Bool} {n i : Nat} (h : ¬ (bstV fit n n).cost < finV fit i (fl fit i) i + ((rstL fit n).getD i zR).cost) : sureL fit n (i + 1) = sureL fit n i := by rw [sureL, if_neg h]
theorem sureL_len (fit : Nat → Nat → Bool) (n : Nat) : ∀ i, (sureL fit n i).length ≤ i
  | 0 => by simp [sureL]
  | i + 1 => by
    have := sureL_len fit n i
    rw [sureL]; split
    · rw [List.length_append]; simp; omega
    · omega
def sureV (s : List Int) (l : List VP) (f : VP) : List Int × Int := if askS s l f = false then ([], 1) else (sureL (fitsF s l f) l.length l.length, 0)
theorem su_1 {s : List Int} {l : List VP} {f : VP} (h : askS s l f = false) : sureV s l f = ([], 1) := by unfold sureV; rw [if_pos h]
theorem su_0 {s : List Int} {l : List VP} {f : VP} {k : Nat} (h : askS s l f = true) (hk : k = l.length) : sureV s l f = (sureL (fitsF s l f) l.length k, 0) := by subst hk; unfold sureV; rw [if_neg (by rw [h]; decide)]
theorem su_len {s : List Int} {l : List VP} {f : VP} : (sureV s l f).1.length ≤ 40 := by
  cases h : askS s l f with
  | false => rw [su_1 h]; simp
  | true =>
    rw [su_0 h rfl]
    have h1 := sureL_len (fitsF s l f) l.length l.length
    unfold askS at h
    rw [Bool.and_eq_true] at h
    have := (log h.1).len
    dsimp only; omega
theorem ask_of {s : List Int} {l : List VP} {f : VP} (h : askS s l f = true) : Log s l ∧ validFlow f = true := by
  unfold askS at h; rw [Bool.and_eq_true] at h; exact ⟨log h.1, h.2⟩
def askC (s : List Int) (l : List VP) (f : VP) : Int := if askS s l f = true then 0 else 1
theorem askC_0 {s : List Int} {l : List VP} {f : VP} (h : askC s l f = 0) : askS s l f = true := by
  unfold askC at h; split at h
  · assumption
  · cases h
theorem askC_1 {s : List Int} {l : List VP} {f : VP} (h : askC s l f ≠ 0) : askS s l f = false ∧ askC s l f = 1 := by
  unfold askC at h ⊢; split at h
  · exact absurd rfl h
  · rename_i hn; exact ⟨by simpa using hn, if_neg hn⟩
theorem encR_eq {a b c a' b' c' : Int} (h1 : a = a') (h2 : b = b') (h3 : c = c') : [Value.int .i64 a, .int .i64 b, .int .i64 c] = encR ⟨a', b', c'⟩ := by rw [h1, h2, h3]; rfl
end Go.W
