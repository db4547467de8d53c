/- Lists of totals, and leaks, in plain numbers. -/
import Derived.Test.YthfbmkfbmmjchaaDoorM12
import Derived.Test.YthfbmkfbmmjchaaDoorF3
set_option linter.unusedVariables false
set_option linter.unusedSimpArgs false
namespace Go.W
open Go Go.Sx
def xsL (L : List VS) : List (List VP) := L.map (·.xs)
def rwP (T : TypeId) (r : VS) : Rw := ⟨.slice r.A r.xs.length r.c, T, 2, r.xs.length, r.xs.flatMap encP⟩
theorem readsP {C : Cx} {m : List Ent} {i : Nat} {T : TypeId} {K : List VS} (hi : m[i]? = some (.pile (K.map (rwP T)))) {k : Nat} (hk : k < K.length) : Reads C m (K.getD k zS).A ((K.getD k zS).xs.flatMap encP) :=
  Reads.pile hi (E := T) (sz := 2) (List.mem_map.2 ⟨_, getD_mem zS hk, rfl⟩)
/-! a list of lists that is made -/
def outP (K : List VS) (n : Nat) : List VS := K ++ List.replicate (n - K.length) zS
theorem outP_len {K : List VS} {n : Nat} (h : K.length ≤ n) : (outP K n).length = n := by unfold outP; simp; omega
theorem outP_all {K : List VS} {n : Nat} (h : K.length = n) : outP K n = K := by unfold outP; rw [h]; simp
theorem outP_set {K : List VS} {n : Nat} (r : VS) (h : K.length < n) : (outP K n).set K.length r = outP (K ++ [r]) n := by
  unfold outP
  rw [List.set_append_right _ _ (Nat.le_refl _), Nat.sub_self, List.length_append]
  obtain ⟨j, hj⟩ : ∃ j, n - K.length = j + 1 := ⟨n - K.length - 1, by omega⟩
  rw [hj, List.replicate_succ, List.set_cons_zero, List.append_assoc, show n - (K.length + [r].length) = j by simp; omega]; rfl
theorem outP_put {K : List VS} {n i : Nat} {v : List Value} (r : VS) (h : K.length < n) (hi : i = K.length * 1) (hv : v = encS r) : put ((outP K n).flatMap encS) i v = (outP (K ++ [r]) n).flatMap encS := by
  subst hi hv
  rw [flat_put encS_len _ _ _ (by rw [outP_len (by omega)]; exact h), outP_set r h]
theorem zout {zs : List Value} {n : Nat} (h : zs = encS zS) : zerosL zs n = (outP [] n).flatMap encS := by
  subst h; rw [zeros_flat encS_len zS (by omega) n]; unfold outP; simp
def totI (L : List VS) : Nat → Int
  | 0 => 0
  | i + 1 => totI L i + ((L.getD i zS).xs.length : Int)
theorem totI_0 (L : List VS) : ∀ i, 0 ≤ totI L i
  | 0 => by simp [totI]
  | i + 1 => by have := totI_0 L i; rw [totI]; omega
theorem totI_mono (L : List VS) {i j : Nat} (h : i ≤ j) : totI L i ≤ totI L j := by
  induction h with
  | refl => omega
  | step _ ih => rw [totI]; omega
theorem totI_each (L : List VS) {i k : Nat} (h : i < k) : ((L.getD i zS).xs.length : Int) ≤ totI L k := by
  have h1 := totI_mono L (show i + 1 ≤ k by omega)
  have h2 := totI_0 L i
  rw [totI] at h1; omega
theorem map_getD {s t : List VS} (h : s.map (·.xs) = t.map (·.xs)) (k : Nat) : (s.getD k zS).xs = (t.getD k zS).xs := by
  have e : ∀ u : List VS, (u.getD k zS).xs = (u.map (·.xs)).getD k [] := fun u => by
    simp only [List.getD, List.getElem?_map]; cases u[k]? <;> rfl
  rw [e, e, h]
theorem map_len {s t : List VS} (h : s.map (·.xs) = t.map (·.xs)) : s.length = t.length := by simpa using congrArg List.length h
theorem totI_congr {s t : List VS} (h : s.map (·.xs) = t.map (·.xs)) : ∀ i, totI s i = totI t i
  | 0 => rfl
  | i + 1 => by rw [totI, totI, totI_congr h i, map_getD h]
theorem map_step {K L : List VS} {r : VS} (h : K.map (·.xs) = (L.map (·.xs)).take K.length) (hk : K.length < L.length) (hr : r.xs = (L.getD K.length zS).xs) : (K ++ [r]).map (·.xs) = (L.map (·.xs)).take (K ++ [r]).length := by
  have h1 : K.length < (L.map (·.xs)).length := by simpa using hk
  rw [List.map_append, h, List.length_append, show [r].length = 1 from rfl, List.take_succ_eq_append_getElem h1]
  congr 1
  simp [hr, List.getD, hk]
theorem map_fin {K L : List VS} (h : K.map (·.xs) = (L.map (·.xs)).take K.length) (hk : K.length = L.length) : K.map (·.xs) = L.map (·.xs) := by
  rw [h, List.take_of_length_le (by simp; omega)]
/-! marks in them -/
def mkSS (K : List VS) (k : Int) : List VS := (List.range K.length).map fun i => ⟨(K.getD i zS).A, (K.getD i zS).c, mkP (K.getD i zS).xs.length (k + 2 * totI K i)⟩
theorem mkSS_len (K : List VS) (k : Int) : (mkSS K k).length = K.length := by simp [mkSS]
def midS (K : List VS) (k : Int) (i : Nat) : List VS := (mkSS K k).take i ++ K.drop i
theorem mid_at {K : List VS} {k : Int} {i : Nat} (h : i < K.length) (T : TypeId) : (midS K k i).map (rwP T) = ((mkSS K k).take i).map (rwP T) ++ rwP T (K.getD i zS) :: (K.drop (i + 1)).map (rwP T) := by
  unfold midS
  rw [List.drop_eq_getElem_cons h, List.map_append, List.map_cons]
  simp [List.getD, h]
theorem mid_next {K : List VS} {k : Int} {i : Nat} (h : i < K.length) (T : TypeId) : ((mkSS K k).take i).map (rwP T) ++ rwP T ⟨(K.getD i zS).A, (K.getD i zS).c, mkP (K.getD i zS).xs.length (k + 2 * totI K i)⟩ :: (K.drop (i + 1)).map (rwP T) = (midS K k (i + 1)).map (rwP T) := by
  have h1 : i < (mkSS K k).length := by rw [mkSS_len]; exact h
  unfold midS
  rw [List.take_succ_eq_append_getElem h1, List.append_assoc, List.map_append, List.map_append]
  simp [mkSS]
theorem mid_0 (K : List VS) (k : Int) : midS K k 0 = K := by simp [midS]
theorem mid_all (K : List VS) (k : Int) : midS K k K.length = mkSS K k := by unfold midS; rw [← mkSS_len K k, List.take_length, mkSS_len, List.drop_length, List.append_nil]
/-! leaks -/
def mkS (xs : List VP) : VS := ⟨none, 0, xs⟩
def nrm (L : List VS) : List VS := (L.map (·.xs)).map mkS
theorem nrm_len (L : List VS) : (nrm L).length = L.length := by simp [nrm]
theorem nrm_at (L : List VS) (k : Nat) : ((nrm L).getD k zS).xs = (L.getD k zS).xs := by
  refine map_getD ?_ k
  unfold nrm; rw [List.map_map]
  simp [mkS, Function.comp_def]
theorem firstD_nrm (L : List VS) : ∀ k, firstD (nrm L) k = firstD L k
  | 0 => rfl
  | k + 1 => by rw [firstD, firstD, firstD_nrm L k, nrm_at]
theorem lastD_nrm (L : List VS) : ∀ k, lastD (nrm L) k = lastD L k
  | 0 => rfl
  | k + 1 => by rw [lastD, lastD, lastD_nrm L k, nrm_at]
theorem anyE_nrm (L : List VS) : anyE (nrm L) = anyE L := by unfold anyE emptyAt; simp only [nrm_len, nrm_at]
theorem comI_nrm (L : List VS) : comI (nrm L) = comI L := by unfold comI; rw [anyE_nrm, nrm_len, firstD_nrm, lastD_nrm]
theorem comV_nrm (L : List VS) : comV (nrm L) = comV L := by unfold comV; rw [anyE_nrm, nrm_len, firstD_nrm, lastD_nrm]
theorem rdC {w : World} {A : Option Addr} {c : Nat} {x : List VP} {L : List VS} (h1 : Rd w A (x.flatMap encP)) (h2 : ∀ k, k < L.length → Rd w (L.getD k zS).A ((L.getD k zS).xs.flatMap encP)) : ∀ k, k < ((⟨A, c, x⟩ : VS) :: L).length → Rd w (((⟨A, c, x⟩ : VS) :: L).getD k zS).A ((((⟨A, c, x⟩ : VS) :: L).getD k zS).xs.flatMap encP)
  | 0, _ => h1
  | k + 1, h => by have := h2 k (by simpa using h); simpa using this
theorem totC {A : Option Addr} {c : Nat} {x : List VP} {L : List VS} (h1 : Tot x) (h2 : ∀ k, k < L.length → Tot (L.getD k zS).xs) : ∀ k, k < ((⟨A, c, x⟩ : VS) :: L).length → Tot (((⟨A, c, x⟩ : VS) :: L).getD k zS).xs
  | 0, _ => h1
  | k + 1, h => by have := h2 k (by simpa using h); simpa using this
def moreV (x : List VP) (day : Int) : Int := (onW x (day + 1)).1 - (onW x day).1
theorem more_bd {x : List VP} (h : Tot x) (day : Int) : -1000000000000 ≤ moreV x day ∧ moreV x day ≤ 1000000000000 := by
  have h1 := ow_bd h day
  have h2 := ow_bd h (day + 1)
  unfold moreV; omega
def sumM (L : List VS) (day : Int) : Nat → Int
  | 0 => 0
  | i + 1 => sumM L day i + moreV (L.getD i zS).xs day
theorem sumM_nrm (L : List VS) (day : Int) : ∀ i, sumM (nrm L) day i = sumM L day i
  | 0 => rfl
  | i + 1 => by rw [sumM, sumM, sumM_nrm L day i, nrm_at]
theorem sumM_bd {L : List VS} (h : ∀ k, k < L.length → Tot (L.getD k zS).xs) (day : Int) : ∀ i, i ≤ L.length → -1000000000000 * (i : Int) ≤ sumM L day i ∧ sumM L day i ≤ 1000000000000 * (i : Int)
  | 0, _ => by simp [sumM]
  | i + 1, hi => by
    have h1 := sumM_bd h day i (by omega)
    have h2 := more_bd (h i (by omega)) day
    rw [sumM]; omega
def leakL (x : List VP) (L : List VS) (wn f : Int) : Nat → List Int
  | 0 => []
  | k + 1 => if sumM L (f + (k : Int)) L.length + wn < moreV x (f + (k : Int)) then leakL x L wn f k ++ [f + (k : Int)] else leakL x L wn f k
theorem leakL_len (x : List VP) (L : List VS) (wn f : Int) : ∀ k, (leakL x L wn f k).length ≤ k
  | 0 => by simp [leakL]
  | k + 1 => by
    have := leakL_len x L wn f k
    rw [leakL]; split
    · rw [List.length_append]; simp; omega
    · omega
theorem leakL_nrm (x : List VP) (L : List VS) (wn f : Int) : ∀ k, leakL x (nrm L) wn f k = leakL x L wn f k
  | 0 => rfl
  | k + 1 => by rw [leakL, leakL, leakL_nrm x L wn f k, nrm_len, sumM_nrm]
theorem ll_y {x : List VP} {L : List VS} {wn f : Int} {k : Nat} (h : sumM L (f + (k : Int)) L.length + wn < moreV x (f + (k : Int))) : leakL x L wn f (k + 1) = leakL x L wn f k ++ [f + (k : Int)] := by rw [leakL, if_pos h]
theorem ll_n {x : List VP} {L : List VS} {wn f : Int} {k : Nat} (h : ¬ sumM L (f + (k : Int)) L.length + wn < moreV x (f + (k : Int))) : leakL x L wn f (k + 1) = leakL x L wn f k := by rw [leakL, if_neg h]
def vB (x : List VP) (L : List VS) : Nat → Bool
  | 0 => validTot x
  | k + 1 => validTot (L.getD k zS).xs
def allV (x : List VP) (L : List VS) : Bool := (List.range (L.length + 1)).all (vB x L)
theorem vB_nrm (x : List VP) (L : List VS) : ∀ k, vB x (nrm L) k = vB x L k
  | 0 => rfl
  | k + 1 => by rw [vB, vB, nrm_at]
theorem allV_nrm (x : List VP) (L : List VS) : allV x (nrm L) = allV x L := by unfold allV; rw [nrm_len]; congr 1; funext k; exact vB_nrm x L k
theorem av_no {x : List VP} {L : List VS} {k : Nat} (hk : k ≤ L.length) (h : vB x L k = false) : allV x L = false := by
  unfold allV; rw [List.all_eq_false]; exact ⟨k, by simp; omega, by simp [h]⟩
theorem av_yes {x : List VP} {L : List VS} {k : Nat} (hk : k = L.length) (hall : ∀ i, i < k → vB x L i = true) (h : vB x L k = true) : allV x L = true := by
  subst hk; unfold allV; rw [List.all_eq_true]; intro i hi
  rcases Nat.lt_or_ge i L.length with h1 | h1
  · exact hall i h1
  · rw [show i = L.length by simp at hi; omega]; exact h
theorem av_tot {x : List VP} {L : List VS} (h : allV x L = true) : Tot x ∧ ∀ k, k < L.length → Tot (L.getD k zS).xs := by
  unfold allV at h; rw [List.all_eq_true] at h
  exact ⟨tot (h 0 (by simp)), fun k hk => tot (h (k + 1) (by simp; omega))⟩
def leakV (x : List VP) (Ls : List (List VP)) (wn : Int) : List Int × Int :=
  if allV x (Ls.map mkS) = false then ([], 1)
  else if ¬ ((1 ≤ Ls.length ∧ Ls.length ≤ 6) ∧ 0 ≤ wn ∧ wn ≤ 1000000000000) then ([], 2)
  else if (comV ((x :: Ls).map mkS)).2.2 = 6 then ([], 0)
  else if (comV ((x :: Ls).map mkS)).2.2 ≠ 0 then ([], (comV ((x :: Ls).map mkS)).2.2)
  else (leakL x (Ls.map mkS) wn (comV ((x :: Ls).map mkS)).1 ((comV ((x :: Ls).map mkS)).2.1 - (comV ((x :: Ls).map mkS)).1).toNat, 0)
theorem leak_eq {A : Option Addr} {c : Nat} {x : List VP} {L : List VS} {wn : Int} : leakV x (L.map (·.xs)) wn =
  if allV x L = false then ([], 1)
  else if ¬ ((1 ≤ L.length ∧ L.length ≤ 6) ∧ 0 ≤ wn ∧ wn ≤ 1000000000000) then ([], 2)
  else if (comV (⟨A, c, x⟩ :: L)).2.2 = 6 then ([], 0)
  else if (comV (⟨A, c, x⟩ :: L)).2.2 ≠ 0 then ([], (comV (⟨A, c, x⟩ :: L)).2.2)
  else (leakL x L wn (comV (⟨A, c, x⟩ :: L)).1 ((comV (⟨A, c, x⟩ :: L)).2.1 - (comV (⟨A, c, x⟩ :: L)).1).toNat, 0) := by
  have e1 : (L.map (·.xs)).map mkS = nrm L := rfl
  have e2 : (x :: L.map (·.xs)).map mkS = nrm (⟨A, c, x⟩ :: L) := rfl
  unfold leakV
  rw [e1, e2, comV_nrm, allV_nrm, leakL_nrm, List.length_map]
theorem lk_1 {x : List VP} {L : List VS} {wn : Int} (h : allV x L = false) : leakV x (L.map (·.xs)) wn = ([], 1) := by rw [leak_eq (A := none) (c := 0), if_pos h]
theorem lk_2 {x : List VP} {L : List VS} {wn : Int} (h : allV x L = true) (h1 : ¬ ((1 ≤ L.length ∧ L.length ≤ 6) ∧ 0 ≤ wn ∧ wn ≤ 1000000000000)) : leakV x (L.map (·.xs)) wn = ([], 2) := by rw [leak_eq (A := none) (c := 0), if_neg (by rw [h]; decide), if_pos h1]
theorem lk_6 {A : Option Addr} {c : Nat} {x : List VP} {L : List VS} {wn : Int} (h : allV x L = true) (h1 : (1 ≤ L.length ∧ L.length ≤ 6) ∧ 0 ≤ wn ∧ wn ≤ 1000000000000) (h2 : (comV (⟨A, c, x⟩ :: L)).2.2 = 6) : leakV x (L.map (·.xs)) wn = ([], 0) := by
  rw [leak_eq (A := A) (c := c), if_neg (by rw [h]; decide), if_neg (not_not_intro h1), if_pos h2]
theorem lk_c {A : Option Addr} {c : Nat} {x : List VP} {L : List VS} {wn : Int} (h : allV x L = true) (h1 : (1 ≤ L.length ∧ L.length ≤ 6) ∧ 0 ≤ wn ∧ wn ≤ 1000000000000) (h2 : ¬ (comV (⟨A, c, x⟩ :: L)).2.2 = 6) (h3 : (comV (⟨A, c, x⟩ :: L)).2.2 ≠ 0) : leakV x (L.map (·.xs)) wn = ([], (comV (⟨A, c, x⟩ :: L)).2.2) := by
  rw [leak_eq (A := A) (c := c), if_neg (by rw [h]; decide), if_neg (not_not_intro h1), if_neg h2, if_pos h3]
theorem lk_0 {A : Option Addr} {c : Nat} {x : List VP} {L : List VS} {wn : Int} {k : Nat} (h : allV x L = true) (h1 : (1 ≤ L.length ∧ L.length ≤ 6) ∧ 0 ≤ wn ∧ wn ≤ 1000000000000) (h3 : (comV (⟨A, c, x⟩ :: L)).2.2 = 0) (hk : (k : Int) = (comV (⟨A, c, x⟩ :: L)).2.1 - (comV (⟨A, c, x⟩ :: L)).1) : leakV x (L.map (·.xs)) wn = (leakL x L wn (comV (⟨A, c, x⟩ :: L)).1 k, 0) := by
  rw [leak_eq (A := A) (c := c), if_neg (by rw [h]; decide), if_neg (not_not_intro h1), if_neg (by rw [h3]; decide), if_neg (by rw [h3]; decide), ← hk, Int.toNat_natCast]
/-- What the common days tell. -/
structure Com (L : List VS) (f l : Int) : Prop where
  le : f ≤ l
  lo : 0 ≤ f
  hi : l ≤ 100000
  span : l - f ≤ 399
  cov : ∀ i, i < L.length → ∀ day, f ≤ day → day ≤ l → Covers (L.getD i zS).xs day
theorem com_cov {L : List VS} (he : anyE L = false) : ∀ i, i < L.length → ∀ day, firstD L L.length ≤ day → day ≤ lastD L L.length → Covers (L.getD i zS).xs day := fun i hi day h1 h2 => by
  have h3 := ae_all he i hi
  have h4 := firstD_ge (L := L) hi
  have h5 := lastD_le (L := L) hi
  exact ⟨by omega, by omega, by omega⟩
theorem comV_0 {L : List VS} (h : (comV L).2.2 = 0) : Com L (comV L).1 (comV L).2.1 := by
  cases he : anyE L with
  | true => rw [cv_e he] at h; cases h
  | false =>
    by_cases h1 : lastD L L.length < firstD L L.length
    · rw [cv_n he h1] at h; cases h
    · by_cases h2 : 400 < lastD L L.length - firstD L L.length + 1
      · rw [cv_l he h1 h2] at h; cases h
      · rw [cv_o he h1 h2]
        have g0 := firstD_0 (L := L) L.length
        have g1 := lastD_0 (L := L) L.length
        exact ⟨by dsimp only; omega, g0, g1, by dsimp only; omega, com_cov he⟩
theorem lk_3 {A : Option Addr} {c : Nat} {x : List VP} {L : List VS} {wn : Int} (h : allV x L = true) (h1 : (1 ≤ L.length ∧ L.length ≤ 6) ∧ 0 ≤ wn ∧ wn ≤ 1000000000000) (h2 : 400 < (comI (⟨A, c, x⟩ :: L)).2 - (comI (⟨A, c, x⟩ :: L)).1 + 1) : leakV x (L.map (·.xs)) wn = ([], 3) := by
  have hn : ¬ (comI (⟨A, c, x⟩ :: L)).2 < (comI (⟨A, c, x⟩ :: L)).1 := by omega
  obtain ⟨he, e⟩ := com_of hn
  rw [e] at h2 hn
  have e2 := cv_l he hn h2
  rw [lk_c (A := A) (c := c) h h1 (by rw [e2]; decide) (by rw [e2]; decide), e2]
/-- How the program's days are those of the reference. -/
theorem lk_days {A : Option Addr} {c : Nat} {x : List VP} {L : List VS} {wn : Int} (h : allV x L = true) (h1 : (1 ≤ L.length ∧ L.length ≤ 6) ∧ 0 ≤ wn ∧ wn ≤ 1000000000000) (h2 : ¬ 400 < (comI (⟨A, c, x⟩ :: L)).2 - (comI (⟨A, c, x⟩ :: L)).1 + 1) :
    ((comI (⟨A, c, x⟩ :: L)).2 < (comI (⟨A, c, x⟩ :: L)).1 ∧ leakV x (L.map (·.xs)) wn = ([], 0)) ∨ (Com (⟨A, c, x⟩ :: L) (comI (⟨A, c, x⟩ :: L)).1 (comI (⟨A, c, x⟩ :: L)).2 ∧ ∀ k : Nat, (k : Int) = (comI (⟨A, c, x⟩ :: L)).2 - (comI (⟨A, c, x⟩ :: L)).1 → leakV x (L.map (·.xs)) wn = (leakL x L wn (comI (⟨A, c, x⟩ :: L)).1 k, 0)) := by
  by_cases hn : (comI (⟨A, c, x⟩ :: L)).2 < (comI (⟨A, c, x⟩ :: L)).1
  · refine .inl ⟨hn, lk_6 (A := A) (c := c) h h1 ?_⟩
    cases he : anyE (⟨A, c, x⟩ :: L) with
    | true => rw [cv_e he]
    | false => rw [ci_f he] at hn; rw [cv_n he hn]
  · obtain ⟨he, e⟩ := com_of hn
    have hn' := hn
    have h2' := h2
    rw [e] at hn' h2'
    have e2 := cv_o he hn' h2'
    have h3 : (comV (⟨A, c, x⟩ :: L)).2.2 = 0 := by rw [e2]
    have hc := comV_0 h3
    have e3 : (comI (⟨A, c, x⟩ :: L)).1 = (comV (⟨A, c, x⟩ :: L)).1 := by rw [e, e2]
    have e4 : (comI (⟨A, c, x⟩ :: L)).2 = (comV (⟨A, c, x⟩ :: L)).2.1 := by rw [e, e2]
    rw [e3, e4]
    exact .inr ⟨hc, fun k hk => lk_0 h h1 h3 hk⟩
theorem leak_len (x : List VP) (L : List VS) (wn : Int) : (leakV x (L.map (·.xs)) wn).1.length ≤ 400 := by
  rw [leak_eq (A := none) (c := 0)]
  split
  · simp
  · split
    · simp
    · split
      · simp
      · split
        · simp
        · rename_i h
          have hc := comV_0 (L := ⟨none, 0, x⟩ :: L) (by simpa using h)
          have h2 := hc.span
          have h3 := hc.le
          have := leakL_len x L wn (comV (⟨none, 0, x⟩ :: L)).1 ((comV (⟨none, 0, x⟩ :: L)).2.1 - (comV (⟨none, 0, x⟩ :: L)).1).toNat
          show (leakL _ _ _ _ _).length ≤ 400
          omega
theorem any_bad {x : List VP} {L : List VS} {A : Option Addr} {c : Nat} : ((⟨A, c, x⟩ : VS) :: L).any (fun r => !validTot r.xs) = !allV x L := by
  cases h : allV x L with
  | true =>
    unfold allV at h; rw [List.all_eq_true] at h
    show _ = false
    rw [List.any_eq_false]
    intro r hr
    rcases List.mem_cons.1 hr with rfl | hr
    · have := h 0 (by simp); simpa [vB] using this
    · obtain ⟨i, hi, rfl⟩ := List.getElem_of_mem hr
      have := h (i + 1) (by simp; omega)
      simpa [vB, List.getD, hi] using this
  | false =>
    unfold allV at h; rw [List.all_eq_false] at h
    obtain ⟨i, hi, hv⟩ := h
    show _ = true
    rw [List.any_eq_true]
    match i, hi, hv with
    | 0, _, hv => exact ⟨_, List.mem_cons_self .., by simpa [vB] using hv⟩
    | i + 1, hi, hv =>
      have hi' : i < L.length := by simp at hi; omega
      exact ⟨L[i], List.mem_cons_of_mem _ (List.getElem_mem hi'), by simpa [vB, List.getD, hi'] using hv⟩
theorem comI_bd {L : List VS} (hT : ∀ k, k < L.length → Tot (L.getD k zS).xs) : 0 ≤ (comI L).1 ∧ (comI L).1 ≤ 100000 ∧ -1 ≤ (comI L).2 ∧ (comI L).2 ≤ 100000 := by
  cases he : anyE L with
  | true => rw [ci_t he]; decide
  | false =>
    rw [ci_f he]
    have h1 := firstD_0 (L := L) L.length
    have h2 := lastD_0 (L := L) L.length
    have h3 := firstD_hi hT (ae_all he)
    have h4 := lastD_lo hT (ae_all he)
    exact ⟨h1, h3, by dsimp only; omega, h2⟩
theorem lk_end {x : List VP} {L : List VS} {wn G E : Int} {k : Nat} {c : Prop} (h : (E < G ∧ leakV x (L.map (·.xs)) wn = ([], 0)) ∨ (c ∧ ∀ k : Nat, (k : Int) = E - G → leakV x (L.map (·.xs)) wn = (leakL x L wn G k, 0))) (hle : c → G ≤ E) (hk : k = 0 ∨ G + (k : Int) ≤ E) (hx : ¬ G + (k : Int) < E) : leakV x (L.map (·.xs)) wn = (leakL x L wn G k, 0) := by
  rcases h with ⟨h1, h2⟩ | ⟨hc, h2⟩
  · obtain rfl : k = 0 := by omega
    exact h2
  · have := hle hc
    exact h2 k (by omega)
theorem eq_ss {s t : List VS} (h : s.map (·.xs) = t.map (·.xs)) (k : Nat) : allEq sameP zP (s.getD k zS).xs (t.getD k zS).xs = true := by rw [map_getD h]; exact samePs_refl _
theorem liftP {C : Cx} {m F : List Ent} {T : TypeId} {r : VS} {rs xs ys : List Rw} (he : rs = xs ++ rwP T r :: ys) (hp : m.Perm (.pile rs :: F)) : ∀ w, Holds C.base C.w0 m w → Holds C.base C.w0 (.row (.slice r.A r.xs.length r.c) T 2 r.xs.length (r.xs.flatMap encP) :: .pile (xs ++ ys) :: F) w :=
  liftAt he hp
theorem layP {C : Cx} {m F : List Ent} {T : TypeId} {A : Option Addr} {c n : Nat} {l : List VP} {rs xs ys : List Rw} (he : xs ++ rwP T ⟨A, c, l⟩ :: ys = rs) (hl : l.length = n) (hp : m.Perm (.row (.slice A n c) T 2 n (l.flatMap encP) :: .pile (xs ++ ys) :: F)) : ∀ w, Holds C.base C.w0 m w → Holds C.base C.w0 (.pile rs :: F) w := by
  subst hl he; exact layHolds hp
theorem lk_1a {A : Option Addr} {c : Nat} {x : List VP} {L : List VS} {wn : Int} (h : List.any (⟨A, c, x⟩ :: L) (fun r => !validTot r.xs) = true) : leakV x (L.map (·.xs)) wn = ([], 1) := by
  rw [any_bad] at h; exact lk_1 (by simpa using h)
theorem av_any {A : Option Addr} {c : Nat} {x : List VP} {L : List VS} (h : List.any (⟨A, c, x⟩ :: L) (fun r => !validTot r.xs) = false) : allV x L = true := by
  rw [any_bad] at h; simpa using h
end Go.W
