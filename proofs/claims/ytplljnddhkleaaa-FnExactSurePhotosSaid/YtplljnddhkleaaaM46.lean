/- The likeliest way. -/
import Derived.Test.YtplljnddhkleaaaM45
set_option linter.unusedVariables false
set_option linter.unusedSimpArgs false
namespace Go.W
open Go Go.Sx
theorem bk_y {c : List Int} {i : Nat} (h : 0 ≤ c.getD i 0) (h2 : bestK c i < 0 ∨ c.getD i 0 < c.getD (bestK c i).toNat 0) : bestK c (i + 1) = i := by rw [bestK, if_pos ⟨h, h2⟩]
theorem bk_n {c : List Int} {i : Nat} (h : ¬ (0 ≤ c.getD i 0 ∧ (bestK c i < 0 ∨ c.getD i 0 < c.getD (bestK c i).toNat 0))) : bestK c (i + 1) = bestK c i := by rw [bestK, if_neg h]
theorem bc_y {c : List Int} {i : Nat} (h : 0 ≤ c.getD i 0) (h2 : bestC c i < 0 ∨ c.getD i 0 < bestC c i) : bestC c (i + 1) = c.getD i 0 := by rw [bestC, if_pos ⟨h, h2⟩]
theorem bc_n {c : List Int} {i : Nat} (h : ¬ (0 ≤ c.getD i 0 ∧ (bestC c i < 0 ∨ c.getD i 0 < bestC c i))) : bestC c (i + 1) = bestC c i := by rw [bestC, if_neg h]
theorem bk_first (c : List Int) : ∀ (i j : Nat), (j : Int) < bestK c i → c.getD j 0 < 0 ∨ c.getD (bestK c i).toNat 0 < c.getD j 0
  | 0, j, h => by simp [bestK] at h; omega
  | i + 1, j, h => by
    have ih := bk_first c i j
    have hb := bk_bd c i
    have hall : ∀ (q : Nat), q < i → 0 ≤ c.getD q 0 → 0 ≤ bestK c i ∧ c.getD (bestK c i).toNat 0 ≤ c.getD q 0 := by
      intro q hq h0
      have key : ∀ i, q < i → 0 ≤ bestK c i ∧ c.getD (bestK c i).toNat 0 ≤ c.getD q 0 := by
        intro i
        induction i with
        | zero => intro h; omega
        | succ i ihi =>
          intro hqi
          have hn := bk_nn c i
          rcases Nat.lt_or_ge q i with h1 | h1
          · have := ihi h1
            rw [bestK]; split
            · next h2 => rw [Int.toNat_natCast]; rcases h2.2 with h3 | h3 <;> omega
            · exact this
          · obtain rfl : q = i := by omega
            rw [bestK]; split
            · next h2 => rw [Int.toNat_natCast]; omega
            · next h2 =>
              have : 0 ≤ bestK c q := by omega
              omega
      exact key i hq
    rw [bestK] at h ⊢
    split at h
    · next h2 =>
      rw [if_pos h2, Int.toNat_natCast]
      by_cases h0 : c.getD j 0 < 0
      · exact .inl h0
      · have := hall j (by omega) (by omega)
        rcases h2.2 with h3 | h3 <;> omega
    · next h2 => rw [if_neg h2]; exact ih h
def okA (lo hi us : Int) (F C : Nat → List Int) (bv : Int) (k i j : Nat) : Bool :=
  if k = 0 then decide (0 ≤ (C 0).getD j 0 ∧ (C 0).getD j 0 = bv)
  else decide ((0 ≤ (C k).getD j 0 ∧ goesB lo hi ((F (k - 1)).getD i 0) ((F k).getD j 0) = true) ∧ (C k).getD j 0 + absW ((F k).getD j 0 - (F (k - 1)).getD i 0 - us) = (C (k - 1)).getD i 0)
def idxP (lo hi us : Int) (F C : Nat → List Int) : Nat → Nat
  | 0 => (bestK (C 0) (F 0).length).toNat
  | k + 1 => ((List.range (F (k + 1)).length).find? (okA lo hi us F C 0 (k + 1) (idxP lo hi us F C k))).getD 0
def bestV (F C : Nat → List Int) : Int := bestC (C 0) (F 0).length
structure PathAt (lo hi us : Int) (F C : Nat → List Int) (k : Nat) : Prop where
  lt : idxP lo hi us F C k < (F k).length
  nn : 0 ≤ (C k).getD (idxP lo hi us F C k) 0
  ok : okA lo hi us F C (bestV F C) k (idxP lo hi us F C (k - 1)) (idxP lo hi us F C k) = true
  fst : ∀ j, j < idxP lo hi us F C k → okA lo hi us F C (bestV F C) k (idxP lo hi us F C (k - 1)) j = false
theorem path_ok {lo hi us : Int} {F C : Nat → List Int} {n : Nat} (hb : 0 ≤ bestK (C 0) (F 0).length) (hC : ∀ k, k + 1 < n → ∀ i, i < (F k).length → (C k).getD i 0 = minC lo hi us ((F k).getD i 0) (F (k + 1)) (C (k + 1)) (F (k + 1)).length) : ∀ k, k < n → PathAt lo hi us F C k
  | 0, hk => by
    have h1 := bk_bd (C 0) (F 0).length
    have h2 := bk_nn (C 0) (F 0).length hb
    have h3 := bk_bc (C 0) (F 0).length
    have e : bestV F C = (C 0).getD (bestK (C 0) (F 0).length).toNat 0 := by unfold bestV; rcases h3 with h3 | h3 <;> omega
    refine ⟨by show (bestK (C 0) (F 0).length).toNat < _; omega, h2, ?_, fun j hj => ?_⟩
    · unfold okA; rw [if_pos rfl, decide_eq_true_iff]; exact ⟨h2, e.symm⟩
    · unfold okA; rw [if_pos rfl, decide_eq_false_iff_not, e]
      have hj2 : j < (bestK (C 0) (F 0).length).toNat := hj
      have := bk_first (C 0) (F 0).length j (by omega)
      omega
  | k + 1, hk => by
    have ih := path_ok hb hC k (by omega)
    have h1 := hC k hk _ ih.lt
    have h2 := ih.nn
    rw [h1] at h2
    obtain ⟨j, hj, h3, h4, h5⟩ := mc_at h2
    have hok : okA lo hi us F C 0 (k + 1) (idxP lo hi us F C k) j = true := by
      unfold okA; rw [if_neg (by omega), decide_eq_true_iff, Nat.add_sub_cancel]
      exact ⟨⟨h3, h4⟩, by rw [h5, h1]⟩
    have hs : ((List.range (F (k + 1)).length).find? (okA lo hi us F C 0 (k + 1) (idxP lo hi us F C k))).isSome = true := by
      rw [List.find?_isSome]; exact ⟨j, by simpa using hj, hok⟩
    obtain ⟨i, hi2⟩ := Option.isSome_iff_exists.1 hs
    have e : idxP lo hi us F C (k + 1) = i := by rw [idxP, hi2]; rfl
    rw [List.find?_range_eq_some] at hi2
    have hbv : ∀ j, okA lo hi us F C (bestV F C) (k + 1) (idxP lo hi us F C k) j = okA lo hi us F C 0 (k + 1) (idxP lo hi us F C k) j := fun j => by unfold okA; rw [if_neg (by omega), if_neg (by omega)]
    have hi3 := hi2.1
    refine ⟨by rw [e]; simpa using hi2.2.1, ?_, by rw [e, Nat.add_sub_cancel, hbv]; exact hi3, fun j hj => ?_⟩
    · unfold okA at hi3
      rw [if_neg (by omega), decide_eq_true_iff] at hi3
      rw [e]; exact hi3.1.1
    · rw [Nat.add_sub_cancel, hbv]
      have := hi2.2.2 j (by omega)
      simpa using this
theorem idx_eq {lo hi us : Int} {F C : Nat → List Int} {k j : Nat} (h : PathAt lo hi us F C k) (hall : ∀ i, i < j → okA lo hi us F C (bestV F C) k (idxP lo hi us F C (k - 1)) i = false) (hj : okA lo hi us F C (bestV F C) k (idxP lo hi us F C (k - 1)) j = true) : idxP lo hi us F C k = j := by
  rcases Nat.lt_trichotomy (idxP lo hi us F C k) j with h1 | h1 | h1
  · have := hall _ h1; rw [h.ok] at this; cases this
  · exact h1
  · have := h.fst j h1; rw [hj] at this; cases this
theorem idx_no {lo hi us : Int} {F C : Nat → List Int} {k j : Nat} (h : PathAt lo hi us F C k) (hall : ∀ i, i < j → okA lo hi us F C (bestV F C) k (idxP lo hi us F C (k - 1)) i = false) (hj : ¬ j < (F k).length) : False := by
  have := hall _ (show idxP lo hi us F C k < j by have := h.lt; omega)
  rw [h.ok] at this; cases this
def outQ (lo hi us : Int) (F C : Nat → List Int) (k : Nat) : List Int := (List.range k).map fun q => (F q).getD (idxP lo hi us F C q) 0
theorem outQ_len (lo hi us : Int) (F C : Nat → List Int) (k : Nat) : (outQ lo hi us F C k).length = k := by simp [outQ]
theorem outQ_s {lo hi us : Int} {F C : Nat → List Int} {k j : Nat} (h : idxP lo hi us F C k = j) : outQ lo hi us F C (k + 1) = outQ lo hi us F C k ++ [(F k).getD j 0] := by
  subst h; unfold outQ; rw [List.range_succ, List.map_append]; rfl
theorem outQ_at {lo hi us : Int} {F C : Nat → List Int} {k q : Nat} (h : q < k) : (outQ lo hi us F C k).getD q 0 = (F q).getD (idxP lo hi us F C q) 0 := by
  simp [outQ, List.getD, h]
def leftQ (lo hi us : Int) (F C : Nat → List Int) : Nat → Int
  | 0 => bestV F C
  | k + 1 => (C k).getD (idxP lo hi us F C k) 0
theorem left_p {lo hi us : Int} {F C : Nat → List Int} {k : Nat} (h : 0 < k) : leftQ lo hi us F C k = (C (k - 1)).getD (idxP lo hi us F C (k - 1)) 0 := by
  obtain ⟨k', rfl⟩ : ∃ k', k = k' + 1 := ⟨k - 1, by omega⟩
  rfl
theorem ok_n1 {lo hi us bv : Int} {F C : Nat → List Int} {k i j : Nat} (h : (C k).getD j 0 < 0) : okA lo hi us F C bv k i j = false := by
  unfold okA; split
  · next hk => subst hk; rw [decide_eq_false_iff_not]; omega
  · rw [decide_eq_false_iff_not]; rintro ⟨⟨h1, _⟩, _⟩; omega
theorem ok_n2 {lo hi us bv : Int} {F C : Nat → List Int} {k i j : Nat} (hk : 0 < k) (h : goesB lo hi ((F (k - 1)).getD i 0) ((F k).getD j 0) = false) : okA lo hi us F C bv k i j = false := by
  unfold okA; rw [if_neg (by omega), decide_eq_false_iff_not]; rintro ⟨⟨_, h1⟩, _⟩; rw [h] at h1; cases h1
theorem ok_n3 {lo hi us bv : Int} {F C : Nat → List Int} {k i j : Nat} (hk : 0 < k) (h : ¬ (C k).getD j 0 + absW ((F k).getD j 0 - (F (k - 1)).getD i 0 - us) = leftQ lo hi us F C k) (hi2 : i = idxP lo hi us F C (k - 1)) : okA lo hi us F C bv k i j = false := by
  subst hi2
  rw [left_p hk] at h
  unfold okA; rw [if_neg (by omega), decide_eq_false_iff_not]; rintro ⟨_, h1⟩; exact h h1
theorem ok_y {lo hi us bv : Int} {F C : Nat → List Int} {k i j : Nat} (hk : 0 < k) (h0 : 0 ≤ (C k).getD j 0) (hg : goesB lo hi ((F (k - 1)).getD i 0) ((F k).getD j 0) = true) (h : (C k).getD j 0 + absW ((F k).getD j 0 - (F (k - 1)).getD i 0 - us) = leftQ lo hi us F C k) (hi2 : i = idxP lo hi us F C (k - 1)) : okA lo hi us F C bv k i j = true := by
  subst hi2
  rw [left_p hk] at h
  unfold okA; rw [if_neg (by omega), decide_eq_true_iff]; exact ⟨⟨h0, hg⟩, h⟩
theorem ok_0n {lo hi us : Int} {F C : Nat → List Int} {k i j : Nat} (hk : k = 0) (h : ¬ (C k).getD j 0 + 0 = leftQ lo hi us F C k) : okA lo hi us F C (bestV F C) k i j = false := by
  subst hk
  unfold okA; rw [if_pos rfl, decide_eq_false_iff_not]; rintro ⟨_, h1⟩
  have h2 : leftQ lo hi us F C 0 = bestV F C := rfl
  omega
theorem ok_0y {lo hi us : Int} {F C : Nat → List Int} {k i j : Nat} (hk : k = 0) (h0 : 0 ≤ (C k).getD j 0) (h : (C k).getD j 0 + 0 = leftQ lo hi us F C k) : okA lo hi us F C (bestV F C) k i j = true := by
  subst hk
  have h2 : leftQ lo hi us F C 0 = bestV F C := rfl
  unfold okA; rw [if_pos rfl, decide_eq_true_iff]; exact ⟨h0, by omega⟩
/-! the statement's own words -/
def cosF (s : List Int) (L : List VPh) (lo hi us : Int) (k : Nat) : List Int := costL lo hi us (filmF s L) L.length (L.length - 1 - k)
def likV (s : List Int) (L : List VPh) (lo hi us : Int) : List Int × Int × Int :=
  if codeF s L lo hi us ≠ 0 then ([], 0, codeF s L lo hi us)
  else if bestV (filmF s L) (cosF s L lo hi us) < 0 then ([], 0, 6)
  else (outQ lo hi us (filmF s L) (cosF s L lo hi us) L.length, bestV (filmF s L) (cosF s L lo hi us), 0)
theorem cos_fun {s : List Int} {L : List VPh} {K J : List (VX Int)} {lo hi us : Int} (hx : K.map (·.xs) = filmL s L) (hn : 0 < L.length) (hJl : J.length = K.length) (hR : ∀ i, i < J.length → (J.getD i zX).xs = costL lo hi us (fun k => (K.getD k zX).xs) K.length i) : (fun k => (J.getD (K.length - 1 - k) zX).xs) = cosF s L lo hi us := by
  funext k
  have hl := kx_len hx
  show (J.getD (K.length - 1 - k) zX).xs = _
  rw [hR _ (by omega), kx_fun hx, hl]; rfl
theorem cos_min {K J : List (VX Int)} {lo hi us : Int} (hJl : J.length = K.length) (hR : ∀ i, i < J.length → (J.getD i zX).xs = costL lo hi us (fun k => (K.getD k zX).xs) K.length i) : ∀ k, k + 1 < K.length → ∀ i, i < (K.getD k zX).xs.length → (J.getD (K.length - 1 - k) zX).xs.getD i 0 = minC lo hi us ((K.getD k zX).xs.getD i 0) (K.getD (k + 1) zX).xs (J.getD (K.length - 1 - (k + 1)) zX).xs (K.getD (k + 1) zX).xs.length := fun k hk i hi2 => by
  rw [hR _ (by omega), hR _ (by omega)]
  have e1 : K.length - 1 - (K.length - 1 - k) = k := by omega
  have := cost_k (lo := lo) (hi := hi) (us := us) (F := fun k => (K.getD k zX).xs) (n := K.length) (t := K.length - 1 - k) (i := i) (by omega) (by omega) (by rw [e1]; exact hi2)
  rw [this]
  unfold curC
  rw [e1, show K.length - 1 - k - 1 = K.length - 1 - (k + 1) by omega]
theorem lk_c {s : List Int} {L : List VPh} {lo hi us : Int} (h : codeF s L lo hi us ≠ 0) : likV s L lo hi us = ([], 0, codeF s L lo hi us) := by unfold likV; rw [if_pos h]
theorem lk_6 {s : List Int} {L : List VPh} {K J : List (VX Int)} {lo hi us : Int} (h : codeF s L lo hi us = 0) (hx : K.map (·.xs) = filmL s L) (hn : 0 < L.length) (hJl : J.length = K.length) (hR : ∀ i, i < J.length → (J.getD i zX).xs = costL lo hi us (fun k => (K.getD k zX).xs) K.length i) (hb : bestC (J.getD (K.length - 1 - 0) zX).xs (K.getD 0 zX).xs.length < 0) : likV s L lo hi us = ([], 0, 6) := by
  unfold likV
  rw [if_neg (fun h9 => h9 h), if_pos]
  rw [← cos_fun hx hn hJl hR, ← kx_fun hx]; exact hb
theorem lk_0 {s : List Int} {L : List VPh} {K J : List (VX Int)} {lo hi us : Int} {k : Nat} (h : codeF s L lo hi us = 0) (hx : K.map (·.xs) = filmL s L) (hn : 0 < L.length) (hJl : J.length = K.length) (hR : ∀ i, i < J.length → (J.getD i zX).xs = costL lo hi us (fun k => (K.getD k zX).xs) K.length i) (hb : ¬ bestC (J.getD (K.length - 1 - 0) zX).xs (K.getD 0 zX).xs.length < 0) (hk : k = L.length) : likV s L lo hi us = (outQ lo hi us (fun k => (K.getD k zX).xs) (fun k => (J.getD (K.length - 1 - k) zX).xs) k, bestC (J.getD (K.length - 1 - 0) zX).xs (K.getD 0 zX).xs.length, 0) := by
  subst hk
  unfold likV
  rw [if_neg (fun h9 => h9 h), ← cos_fun hx hn hJl hR, ← kx_fun hx, if_neg (show ¬ bestV (fun k => (K.getD k zX).xs) (fun k => (J.getD (K.length - 1 - k) zX).xs) < 0 from hb)]; rfl
theorem lk_len {s : List Int} {L : List VPh} {lo hi us : Int} : (likV s L lo hi us).1.length ≤ 20 := by
  by_cases h : codeF s L lo hi us = 0
  · have hl := (cf_of h).2.2.1.1
    unfold likV
    rw [if_neg (fun h9 => h9 h)]
    split
    · simp
    · show (outQ _ _ _ _ _ _).length ≤ 20
      rw [outQ_len]; omega
  · rw [lk_c h]; simp
/-! the code, as the reference comes to it -/
theorem cu_2 {s : List Int} {L : List VPh} {lo hi us : Int} (h : codeF s L lo hi lo = 0 ∨ codeF s L lo hi lo = 3) (hu : ¬ (lo ≤ us ∧ us ≤ hi)) : codeF s L lo hi us = 2 := by
  cases h1 : (validStack s && !badP s L) with
  | false => rw [cf_1 h1] at h; omega
  | true => exact cf_2 h1 (by omega)
theorem cu_s {s : List Int} {L : List VPh} {lo hi us : Int} (h : ¬ (codeF s L lo hi lo = 0 ∨ codeF s L lo hi lo = 3) ∨ (lo ≤ us ∧ us ≤ hi)) : codeF s L lo hi us = codeF s L lo hi lo := by
  cases h1 : (validStack s && !badP s L) with
  | false => rw [cf_1 h1, cf_1 h1]
  | true =>
    by_cases h2 : (1 ≤ L.length ∧ L.length ≤ 20) ∧ 0 ≤ lo ∧ lo ≤ hi ∧ hi ≤ 1000000000000 ∧ lo ≤ lo ∧ lo ≤ hi
    · cases h3 : manyP s L with
      | true =>
        rw [cf_3 h1 h2 h3] at h
        rw [cf_3 h1 h2 h3, cf_3 h1 (by omega) h3]
      | false =>
        rw [cf_0 h1 h2 h3] at h
        rw [cf_0 h1 h2 h3, cf_0 h1 (by omega) h3]
    · rw [cf_2 h1 h2, cf_2 h1 (by omega)]
end Go.W
