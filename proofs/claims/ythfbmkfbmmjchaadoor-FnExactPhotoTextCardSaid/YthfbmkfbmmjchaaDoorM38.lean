/- Counts in photos, as the program reckons them. -/
import Derived.Test.YthfbmkfbmmjchaaDoorM37
set_option linter.unusedVariables false
set_option linter.unusedSimpArgs false
namespace Go.W
open Go Go.Sx
theorem ones64' {x a b c d e f : Int} (hx : 0 ≤ x ∧ x < 18446744073709551616)
    (ha : IntKind.u64.wrap (bits .and .u64 (x / 2 ^ min (1 : Int).toNat IntKind.u64.bits) 6148914691236517205 + bits .and .u64 x 6148914691236517205) = a)
    (hb : IntKind.u64.wrap (bits .and .u64 (a / 2 ^ min (2 : Int).toNat IntKind.u64.bits) 3689348814741910323 + bits .and .u64 a 3689348814741910323) = b)
    (hc : bits .and .u64 (IntKind.u64.wrap (b / 2 ^ min (4 : Int).toNat IntKind.u64.bits + b)) 1085102592571150095 = c)
    (hd : IntKind.u64.wrap (c + c / 2 ^ min (8 : Int).toNat IntKind.u64.bits) = d)
    (he : IntKind.u64.wrap (d + d / 2 ^ min (16 : Int).toNat IntKind.u64.bits) = e)
    (hf : IntKind.u64.wrap (e + e / 2 ^ min (32 : Int).toNat IntKind.u64.bits) = f) : 0 ≤ f ∧ f ≤ 9223372036854775807 ∧ f % 128 = popI x := by
  subst ha hb hc hd he hf
  exact ones64 hx
theorem and127 {f : Int} (h : 0 ≤ f ∧ f ≤ 9223372036854775807) : bits .and .i64 f 127 = f % 128 := bits_mask .i64 63 (by decide) wraps_i64 7 (by decide) f h.1 (by have := h.2; omega)
/-! bits, one by one -/
def popJ (x : Int) (k : Nat) : Int := (popK x.toNat k : Int)
theorem popJ_0 (x : Int) : popJ x 0 = 0 := rfl
theorem popJ_s {x : Int} (h : 0 ≤ x) (k : Nat) : popJ x (k + 1) = popJ x k + x / 2 ^ k % 2 := by
  obtain ⟨n, rfl⟩ := Int.eq_ofNat_of_zero_le h
  unfold popJ
  rw [Int.toNat_natCast, popK_succ]
  push_cast; rfl
theorem popJ_bd (x : Int) (k : Nat) : 0 ≤ popJ x k ∧ popJ x k ≤ k := by unfold popJ; have := popK_le x.toNat k; omega
theorem popJ_end {x : Int} {k : Nat} (h : 0 ≤ x) (hk : k ≤ 64) (hz : x / 2 ^ k = 0) : popJ x k = popI x := by
  obtain ⟨n, rfl⟩ := Int.eq_ofNat_of_zero_le h
  unfold popJ popI
  rw [Int.toNat_natCast]
  have hz2 : n / 2 ^ k = 0 := by exact_mod_cast hz
  have := popK_hi hz2 (64 - k)
  rw [show k + (64 - k) = 64 by omega] at this
  rw [this]
theorem pop_lt {x : Int} {k : Nat} (h : 0 ≤ x ∧ x < 18446744073709551616) (hz : ¬ x / 2 ^ k = 0) : k < 64 := by
  rcases Nat.lt_or_ge k 64 with h1 | h1
  · exact h1
  · exfalso
    refine hz (Int.ediv_eq_zero_of_lt h.1 ?_)
    have h2 : (2 : Nat) ^ 64 ≤ 2 ^ k := Nat.pow_le_pow_right (by omega) h1
    have h3 : ((2 : Int)) ^ 64 ≤ 2 ^ k := by exact_mod_cast h2
    have := h.2
    omega
theorem pop_div {x : Int} {k : Nat} : x / 2 ^ k / 2 ^ min (1 : Int).toNat IntKind.u64.bits = x / 2 ^ (k + 1) := by
  rw [show (2 : Int) ^ min (1 : Int).toNat IntKind.u64.bits = 2 from rfl, Int.pow_succ, Int.ediv_ediv_of_nonneg (Int.pow_nonneg (by omega))]
theorem pop_bd {x : Int} {k : Nat} (h : 0 ≤ x ∧ x < 18446744073709551616) : 0 ≤ x / 2 ^ k ∧ x / 2 ^ k < 18446744073709551616 := by
  have h0 : (0 : Int) ≤ 2 ^ k := Int.pow_nonneg (by omega)
  have h1 := Int.ediv_nonneg h.1 h0
  have h2 := Int.ediv_le_self (2 ^ k) h.1
  omega
def cumM (m : VMk) : Nat → Int
  | 0 => 0
  | i + 1 => cumM m i + popI (m.l.getD i 0)
theorem cumM_bd (m : VMk) : ∀ i : Nat, 0 ≤ cumM m i ∧ cumM m i ≤ 64 * i
  | 0 => by simp [cumM]
  | i + 1 => by have := cumM_bd m i; have := popI_bd (m.l.getD i 0); rw [cumM]; omega
theorem cumM_2 (m : VMk) : cumM m 2 = cntM m := by
  show (0 + popI m.lo) + popI m.hi = _
  unfold cntM; omega
/-! how many are less -/
def lessD (ds : List Int) (x : Int) : Nat → Int
  | 0 => 0
  | r + 1 => lessD ds x r + if ds.getD r 0 < x then 1 else 0
theorem lessD_y {ds : List Int} {x : Int} {r : Nat} (h : ds.getD r 0 < x) : lessD ds x (r + 1) = lessD ds x r + 1 := by rw [lessD, if_pos h]
theorem lessD_n {ds : List Int} {x : Int} {r : Nat} (h : ¬ ds.getD r 0 < x) : lessD ds x (r + 1) = lessD ds x r := by rw [lessD, if_neg h, Int.add_zero]
theorem lessD_bd (ds : List Int) (x : Int) : ∀ r : Nat, 0 ≤ lessD ds x r ∧ lessD ds x r ≤ r
  | 0 => by simp [lessD]
  | r + 1 => by have := lessD_bd ds x r; rw [lessD]; split <;> omega
theorem lessD_filter (ds : List Int) (x : Int) : ∀ r, r ≤ ds.length → lessD ds x r = (((ds.take r).filter fun y => decide (y < x)).length : Int)
  | 0, _ => by simp [lessD]
  | r + 1, h => by
    rw [lessD, lessD_filter ds x r (by omega), List.take_succ_eq_append_getElem (by omega : r < ds.length), List.filter_append, List.length_append]
    have e : ds.getD r 0 = ds[r] := by simp [List.getD, show r < ds.length by omega]
    rw [e]
    by_cases hx : ds[r] < x
    · simp [hx]
    · simp [hx]
theorem lessD_M (m : VMk) (d : Nat) : lessD (digI m) (d : Int) (digI m).length = lessM m (min 128 d) := by
  rw [lessD_filter _ _ _ (Nat.le_refl _), List.take_length]
  unfold digI digM
  have key : ∀ K : Nat, ((((((List.range K).filter (hasM m)).map fun n : Nat => (n : Int)).filter fun y => decide (y < (d : Int))).length : Nat) : Int) = lessM m (min K d) := by
    intro K
    induction K with
    | zero => simp [lessM]
    | succ K ih =>
      rw [List.range_succ, List.filter_append, List.map_append, List.filter_append, List.length_append, Int.natCast_add, ih]
      rcases Nat.lt_or_ge K d with h | h
      · rw [show min (K + 1) d = min K d + 1 by omega, less_succ, show min K d = K by omega]
        by_cases hh : hasM m K = true
        · simp [hh, h]
        · simp [hh]
      · rw [show min (K + 1) d = min K d by omega]
        by_cases hh : hasM m K = true
        · simp [hh, show ¬ ((K : Int) < d) by omega]
        · simp [hh]
  exact key 128
theorem less_end {m : VMk} {x : Int} (h : 0 ≤ x ∧ x ≤ 128) : lessD (digI m) x (digI m).length = lessM m x.toNat := by
  obtain ⟨d, rfl⟩ := Int.eq_ofNat_of_zero_le h.1
  rw [lessD_M, Int.toNat_natCast, show min 128 d = d by omega]
/-! what is added up from the last wheel on -/
def termB (l : List VMk) (d : List Int) (i : Nat) : Int := lessM (l.getD i zMk) (d.getD i 0).toNat * choV l i
def accU (l : List VMk) (d : List Int) : Nat → Nat → Int
  | 0, _ => 0
  | n + 1, k => accU l d n (k + 1) + termB l d k
theorem acc_s {l : List VMk} {d : List Int} {n j : Nat} (h : j < n) : accU l d (n - j) j = accU l d (n - (j + 1)) (j + 1) + lessM (l.getD j zMk) (d.getD j 0).toNat * choV l j := by
  obtain ⟨r, hr⟩ : ∃ r, n - j = r + 1 := ⟨n - j - 1, by omega⟩
  rw [hr, accU, show n - (j + 1) = r by omega]; rfl
theorem acc_bd {s : List Int} {l : List VMk} {d : List Int} (h : PhOk s l) (hs : Stk s) (hd : DigOk s d) : ∀ (n k : Nat), k + n ≤ s.length → 0 ≤ accU l d n k ∧ accU l d n k ≤ 100000000000000 * n
  | 0, _, _ => by simp [accU]
  | n + 1, k, hk => by
    have h1 := acc_bd h hs hd n (k + 1) (by omega)
    have h2 := bel_term h hs hd (i := k) (by omega)
    rw [accU]; unfold termB; omega
theorem bel_end {l : List VMk} {d : List Int} {n : Nat} (h : belV l d n 0 = belV l d 0 (accU l d n 0)) : accU l d n 0 = belV l d n 0 := h.symm
theorem bel_step {l : List VMk} {d : List Int} {n j : Nat} (hj : j < n) (h : belV l d n 0 = belV l d (j + 1) (accU l d (n - (j + 1)) (j + 1))) (hh : hasM (l.getD j zMk) (d.getD j 0).toNat = true) : belV l d n 0 = belV l d j (accU l d (n - j) j) := by
  rw [h, bel_y hh, acc_s hj]
theorem bel_stop {l : List VMk} {d : List Int} {n j : Nat} (h : belV l d n 0 = belV l d (j + 1) (accU l d (n - (j + 1)) (j + 1))) (hh : hasM (l.getD j zMk) (d.getD j 0).toNat = false) : accU l d (n - (j + 1)) (j + 1) + lessM (l.getD j zMk) (d.getD j 0).toNat * choV l j = belV l d n 0 := by
  rw [h, bel_n hh]
/-! the statement's own words -/
theorem ci_1 {s : List Int} {p : VPh} {lo hi : Int} (h : validPh s p = false) : cinV s p lo hi = (0, 1) := by unfold cinV; rw [if_pos h]
theorem ci_2 {s : List Int} {p : VPh} {lo hi : Int} (h : validPh s p = true) (h2 : ¬ ((0 ≤ lo ∧ lo ≤ size s - 1) ∧ 0 ≤ hi ∧ hi ≤ size s - 1)) : cinV s p lo hi = (0, 2) := by unfold cinV; rw [if_neg (by rw [h]; decide), if_pos h2]
theorem ci_0 {s : List Int} {p : VPh} {lo hi : Int} (h : validPh s p = true) (h2 : (0 ≤ lo ∧ lo ≤ size s - 1) ∧ 0 ≤ hi ∧ hi ≤ size s - 1) (h3 : hi < lo) : cinV s p lo hi = (0, 0) := by unfold cinV; rw [if_neg (by rw [h]; decide), if_neg (fun h9 => h9 h2), if_pos h3]
theorem ci_y {s : List Int} {p : VPh} {lo hi : Int} (h : validPh s p = true) (h2 : (0 ≤ lo ∧ lo ≤ size s - 1) ∧ 0 ≤ hi ∧ hi ≤ size s - 1) (h3 : ¬ hi < lo) (h4 : showsM s p.l (digs s hi) = true) : cinV s p lo hi = (belV p.l (digs s hi) s.length 0 - belV p.l (digs s lo) s.length 0 + 1, 0) := by
  unfold cinV; rw [if_neg (by rw [h]; decide), if_neg (fun h9 => h9 h2), if_neg h3, if_pos h4]
theorem ci_n {s : List Int} {p : VPh} {lo hi : Int} (h : validPh s p = true) (h2 : (0 ≤ lo ∧ lo ≤ size s - 1) ∧ 0 ≤ hi ∧ hi ≤ size s - 1) (h3 : ¬ hi < lo) (h4 : showsM s p.l (digs s hi) = false) : cinV s p lo hi = (belV p.l (digs s hi) s.length 0 - belV p.l (digs s lo) s.length 0, 0) := by
  unfold cinV; rw [if_neg (by rw [h]; decide), if_neg (fun h9 => h9 h2), if_neg h3, if_neg (by rw [h4]; decide), Int.add_zero]
theorem vph {s : List Int} {p : VPh} (hp : OkPh p) (h : validPh s p = true) : validStack s = true ∧ Stk s ∧ PhOk s p.l := by
  unfold validPh at h
  rw [Bool.and_eq_true] at h
  exact ⟨h.1, stk h.1, phOk (stk h.1) hp h.2⟩
end Go.W
