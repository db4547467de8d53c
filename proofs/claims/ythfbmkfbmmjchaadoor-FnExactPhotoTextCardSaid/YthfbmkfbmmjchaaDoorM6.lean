/- Fewer acts, in plain numbers. -/
import Derived.Test.YthfbmkfbmmjchaaDoorM5
set_option linter.unusedVariables false
set_option linter.unusedSimpArgs false
namespace Go.W
open Go Go.Sx
theorem bt_len (d : VDev) (n k : Int) : (batchV d n k).1.length ≤ 61 := by
  unfold batchV
  split
  · simp
  · split
    · simp
    · split
      · simp
      · rename_i h
        rw [batchL_len]; omega
def isPulse (a : VAct) : Bool := decide (a.kind = 1 ∨ a.kind = 2)
def stepA (out : List VAct) (a : VAct) : List VAct :=
  if isPulse a = true ∧ a.n = 0 then out
  else if out.length = 0 ∨ (out.getD (out.length - 1) zA).kind ≠ a.kind ∨ a.kind = 5 then out ++ [a]
  else if isPulse a = true then out.set (out.length - 1) ⟨(out.getD (out.length - 1) zA).kind, (out.getD (out.length - 1) zA).n + a.n⟩
  else out.set (out.length - 1) a
def shortL (l : List VAct) (k : Nat) : List VAct := (l.take k).foldl stepA []
theorem shortL_succ {l : List VAct} {k : Nat} (h : k < l.length) : shortL l (k + 1) = stepA (shortL l k) (l.getD k zA) := by
  unfold shortL
  rw [List.take_succ_eq_append_getElem h, List.foldl_append]
  simp [List.getD, h]
theorem stepA_len (out : List VAct) (a : VAct) : (stepA out a).length ≤ out.length + 1 := by
  unfold stepA
  split
  · omega
  · split
    · simp
    · split <;> simp
theorem shortL_len (l : List VAct) : ∀ k, (shortL l k).length ≤ k
  | 0 => by simp [shortL]
  | k + 1 => by
    rcases Nat.lt_or_ge k l.length with h | h
    · rw [shortL_succ h]; have h1 := stepA_len (shortL l k) (l.getD k zA); have h2 := shortL_len l k; omega
    · have e : shortL l (k + 1) = shortL l k := by unfold shortL; rw [List.take_of_length_le (by omega), List.take_of_length_le h]
      rw [e]; have := shortL_len l k; omega
/-- How great the numbers are. -/
def Low (b : Int) (l : List VAct) : Prop := ∀ x ∈ l, -1 ≤ x.n ∧ x.n ≤ b
theorem Low.at_ {b : Int} {l : List VAct} (h : Low b l) {i : Nat} (hi : i < l.length) : -1 ≤ (l.getD i zA).n ∧ (l.getD i zA).n ≤ b := h _ (getD_mem zA hi)
theorem valid_n {a : VAct} (h : validAct a = true) : -1 ≤ a.n ∧ a.n ≤ 1000000000000 ∧ (isPulse a = true → 0 ≤ a.n) := by
  unfold validAct at h; rw [decide_eq_true_iff] at h
  refine ⟨by omega, by omega, fun hp => ?_⟩
  unfold isPulse at hp; rw [decide_eq_true_iff] at hp; omega
theorem stepA_low {out : List VAct} {a : VAct} {b : Int} (hb : 0 ≤ b) (h : Low b out) (ha : validAct a = true) : Low (b + 1000000000000) (stepA out a) := by
  have hv := valid_n ha
  have hw : Low (b + 1000000000000) out := fun x hx => by have := h x hx; omega
  unfold stepA
  split
  · exact hw
  · split
    · intro x hx
      rcases List.mem_append.1 hx with hx | hx
      · exact hw x hx
      · simp at hx; subst hx; omega
    · rename_i hne
      have hl : 0 < out.length := by omega
      have hlast := h.at_ (i := out.length - 1) (by omega)
      split
      · rename_i hp
        intro x hx
        rcases List.mem_or_eq_of_mem_set hx with hx | rfl
        · exact hw x hx
        · have := hv.2.2 hp
          show -1 ≤ (out.getD (out.length - 1) zA).n + a.n ∧ (out.getD (out.length - 1) zA).n + a.n ≤ b + 1000000000000
          omega
      · intro x hx
        rcases List.mem_or_eq_of_mem_set hx with hx | rfl
        · exact hw x hx
        · omega
theorem shortL_low {l : List VAct} (hv : ∀ i, i < l.length → validAct (l.getD i zA) = true) : ∀ k, k ≤ l.length → Low (k * 1000000000000) (shortL l k)
  | 0, _ => fun x hx => by simp [shortL] at hx
  | k + 1, hk => by
    have := stepA_low (by omega) (shortL_low hv k (by omega)) (hv k (by omega))
    rw [shortL_succ (by omega)]
    intro x hx
    have := this x hx
    omega
theorem st_skip {out : List VAct} {a : VAct} (h : isPulse a = true) (h0 : a.n = 0) : stepA out a = out := by unfold stepA; rw [if_pos ⟨h, h0⟩]
theorem st_new {out : List VAct} {a : VAct} (h : ¬ (isPulse a = true ∧ a.n = 0)) (h1 : out.length = 0 ∨ (out.getD (out.length - 1) zA).kind ≠ a.kind ∨ a.kind = 5) : stepA out a = out ++ [a] := by unfold stepA; rw [if_neg h, if_pos h1]
theorem st_add {out : List VAct} {a : VAct} (h : ¬ (isPulse a = true ∧ a.n = 0)) (h1 : ¬ (out.length = 0 ∨ (out.getD (out.length - 1) zA).kind ≠ a.kind ∨ a.kind = 5)) (h2 : isPulse a = true) : stepA out a = out.set (out.length - 1) ⟨(out.getD (out.length - 1) zA).kind, (out.getD (out.length - 1) zA).n + a.n⟩ := by unfold stepA; rw [if_neg h, if_neg h1, if_pos h2]
theorem st_put {out : List VAct} {a : VAct} (h : ¬ (isPulse a = true ∧ a.n = 0)) (h1 : ¬ (out.length = 0 ∨ (out.getD (out.length - 1) zA).kind ≠ a.kind ∨ a.kind = 5)) (h2 : isPulse a = false) : stepA out a = out.set (out.length - 1) a := by unfold stepA; rw [if_neg h, if_neg h1, if_neg (by simp [h2])]
/-- A number that is too great stays so. -/
def Over (out : List VAct) : Prop := ∃ i, i < out.length ∧ isPulse (out.getD i zA) = true ∧ 1000000000000 < (out.getD i zA).n
theorem getD_set {α : Type} {l : List α} {i j : Nat} {x d : α} (hj : j < l.length) : (l.set i x).getD j d = if i = j then x else l.getD j d := by
  simp only [List.getD, List.getElem?_set]
  by_cases h : i = j
  · subst h; simp [hj]
  · simp [h]
theorem over_step {out : List VAct} {a : VAct} (ha : validAct a = true) (h : Over out) : Over (stepA out a) := by
  obtain ⟨i, hi, hp, hn⟩ := h
  have hv := valid_n ha
  unfold stepA
  split
  · exact ⟨i, hi, hp, hn⟩
  · split
    · exact ⟨i, by simp; omega, by rw [show (out ++ [a]).getD i zA = out.getD i zA by simp only [List.getD, List.getElem?_append_left hi]]; exact ⟨hp, hn⟩⟩
    · rename_i h1 h2
      split
      · rename_i h3
        refine ⟨i, by simpa using hi, ?_⟩
        rw [getD_set hi]
        split
        · rename_i e
          subst e
          have := hv.2.2 h3
          refine ⟨by unfold isPulse at hp ⊢; exact hp, ?_⟩
          show 1000000000000 < (out.getD (out.length - 1) zA).n + a.n
          omega
        · exact ⟨hp, hn⟩
      · rename_i h3
        refine ⟨i, by simpa using hi, ?_⟩
        rw [getD_set hi]
        split
        · rename_i e
          subst e
          exfalso
          have hk : (out.getD (out.length - 1) zA).kind = a.kind := by
            by_cases hk : (out.getD (out.length - 1) zA).kind = a.kind
            · exact hk
            · exact absurd (.inr (.inl hk)) h2
          unfold isPulse at hp h3
          rw [hk] at hp
          exact h3 hp
        · exact ⟨hp, hn⟩
theorem over_later {l : List VAct} (hv : ∀ i, i < l.length → validAct (l.getD i zA) = true) {k : Nat} (h : Over (shortL l k)) : ∀ j, k + j ≤ l.length → Over (shortL l (k + j))
  | 0, _ => h
  | j + 1, hj => by
    rw [show k + (j + 1) = (k + j) + 1 by omega, shortL_succ (by omega)]
    exact over_step (hv _ (by omega)) (over_later hv h j (by omega))
def big (a : VAct) : Bool := decide (1000000000000 < a.n)
theorem over_any {out : List VAct} (h : Over out) : out.any big = true := by
  obtain ⟨i, hi, _, hn⟩ := h
  rw [List.any_eq_true]
  exact ⟨_, getD_mem zA hi, by unfold big; simpa using hn⟩
theorem low_any {out : List VAct} (h : Low 1000000000000 out) : out.any big = false := by
  rw [List.any_eq_false]
  intro x hx
  have := h x hx
  unfold big; simp; omega
def badA (a : VAct) : Bool := !validAct a
def afault (l : List VAct) : Int := if l.any badA = true then 1 else if 60 < (l.length : Int) then 3 else 0
theorem af_bad {l : List VAct} (h : l.any badA = true) : 1 = afault l := by unfold afault; rw [if_pos h]
theorem af_long {l : List VAct} (h : l.any badA = false) (h1 : 60 < (l.length : Int)) : 3 = afault l := by unfold afault; rw [if_neg (by simp [h]), if_pos h1]
theorem af_ok {l : List VAct} (h : l.any badA = false) (h1 : ¬ 60 < (l.length : Int)) : 0 = afault l := by unfold afault; rw [if_neg (by simp [h]), if_neg h1]
theorem af_zero {l : List VAct} (h : ¬ afault l ≠ 0) : (∀ i, i < l.length → validAct (l.getD i zA) = true) ∧ l.length ≤ 60 := by
  unfold afault at h
  split at h
  · exact absurd (by decide) h
  · rename_i h1
    split at h
    · exact absurd (by decide) h
    · refine ⟨fun i hi => ?_, by omega⟩
      have h2 : l.any badA = false := by simpa using h1
      rw [List.any_eq_false] at h2
      have := h2 _ (getD_mem zA hi)
      unfold badA at this
      simpa using this
theorem af_bad' {l : List VAct} {k : Nat} (hk : k < l.length) (h : validAct (l.getD k zA) = false) : afault l = 1 := by
  refine (af_bad ?_).symm
  rw [List.any_eq_true]
  exact ⟨_, getD_mem zA hk, by unfold badA; rw [h]; rfl⟩
theorem any_bad_f {l : List VAct} {k : Nat} (hk : ¬ k < l.length) (h : ∀ i, i < k → validAct (l.getD i zA) = true) : l.any badA = false := by
  rw [List.any_eq_false]
  intro x hx
  obtain ⟨i, hi, rfl⟩ := List.getElem_of_mem hx
  have := h i (by omega)
  simp only [List.getD, List.getElem?_eq_getElem hi, Option.getD_some] at this
  unfold badA; simp [this]
def shortV (l : List VAct) : List VAct × Int := if afault l ≠ 0 then ([], afault l) else if (shortL l l.length).any big = true then ([], 2) else (shortL l l.length, 0)
theorem sh_bad {l : List VAct} (h : afault l ≠ 0) : shortV l = ([], afault l) := by unfold shortV; rw [if_pos h]
theorem sh_big {l : List VAct} (h : ¬ afault l ≠ 0) (h1 : (shortL l l.length).any big = true) : shortV l = ([], 2) := by unfold shortV; rw [if_neg h, if_pos h1]
theorem sh_ok {l : List VAct} (h : ¬ afault l ≠ 0) (h1 : (shortL l l.length).any big = false) : shortV l = (shortL l l.length, 0) := by unfold shortV; rw [if_neg h, if_neg (by simp [h1])]
theorem sh_len (l : List VAct) : (shortV l).1.length ≤ l.length := by
  unfold shortV
  split
  · simp
  · split
    · simp
    · exact shortL_len l _
theorem isP_t {a : VAct} (h : a.kind = 1 ∨ a.kind = 2) : isPulse a = true := by unfold isPulse; exact decide_eq_true h
theorem isP_f {a : VAct} (h : ¬ (a.kind = 1 ∨ a.kind = 2)) : isPulse a = false := by unfold isPulse; exact decide_eq_false h
theorem nP {a : VAct} (h : isPulse a = true) (h1 : isPulse a = false) : False := by rw [h] at h1; exact absurd h1 (by decide)
theorem nPk {a : VAct} (h : isPulse a = true) (h1 : ¬ (a.kind = 1 ∨ a.kind = 2)) : False := nP h (isP_f h1)
theorem Low.any {b : Int} {l : List VAct} (h : Low b l) (hb : 0 ≤ b) (i : Nat) : -1 ≤ (l.getD i zA).n ∧ (l.getD i zA).n ≤ b := by
  rcases Nat.lt_or_ge i l.length with hi | hi
  · exact h.at_ hi
  · have e : l.getD i zA = zA := by simp [List.getD, List.getElem?_eq_none hi]
    rw [e]; exact ⟨by decide, hb⟩
def Fresh (out : List VAct) (a : VAct) : Prop := out.length = 0 ∨ (out.getD (out.length - 1) zA).kind ≠ a.kind ∨ a.kind = 5
theorem low_next {out : List VAct} {a : VAct} (h : Low 1000000000000 out) (ha : validAct a = true) (h3 : (isPulse a = true ∧ a.n = 0) ∨ Fresh out a ∨ ¬ 1000000000000 < ((stepA out a).getD (out.length - 1) zA).n) : Low 1000000000000 (stepA out a) := by
  have hv := valid_n ha
  by_cases h1 : isPulse a = true ∧ a.n = 0
  · rw [st_skip h1.1 h1.2]; exact h
  · by_cases h2 : Fresh out a
    · rw [st_new h1 h2]
      intro x hx
      rcases List.mem_append.1 hx with hx | hx
      · exact h x hx
      · simp at hx; subst hx; omega
    · have hl : 0 < out.length := by unfold Fresh at h2; omega
      have h3 := (h3.resolve_left h1).resolve_left h2
      cases hp : isPulse a with
      | true =>
        have hlast := h.at_ (i := out.length - 1) (by omega)
        have hv2 := hv.2.2 hp
        rw [st_add h1 h2 hp] at h3 ⊢
        rw [getD_set (by omega), if_pos rfl] at h3
        intro x hx
        rcases List.mem_or_eq_of_mem_set hx with hx | rfl
        · exact h x hx
        · show -1 ≤ (out.getD (out.length - 1) zA).n + a.n ∧ (out.getD (out.length - 1) zA).n + a.n ≤ 1000000000000
          have h3 : ¬ 1000000000000 < (out.getD (out.length - 1) zA).n + a.n := h3
          omega
      | false =>
        rw [st_put h1 h2 hp]
        intro x hx
        rcases List.mem_or_eq_of_mem_set hx with hx | rfl
        · exact h x hx
        · omega
theorem over_chk {out : List VAct} {a : VAct} (ha : validAct a = true) (h1 : ¬ (isPulse a = true ∧ a.n = 0)) (h2 : ¬ Fresh out a) (h3 : 1000000000000 < ((stepA out a).getD (out.length - 1) zA).n) : Over (stepA out a) := by
  have hl : 0 < out.length := by unfold Fresh at h2; omega
  have hv := valid_n ha
  have hk : (out.getD (out.length - 1) zA).kind = a.kind := by
    by_cases hk : (out.getD (out.length - 1) zA).kind = a.kind
    · exact hk
    · exact absurd (.inr (.inl hk)) h2
  cases hp : isPulse a with
  | true =>
    have e := st_add h1 h2 hp
    rw [e] at h3 ⊢
    refine ⟨out.length - 1, by simp; omega, ?_, h3⟩
    rw [getD_set (by omega), if_pos rfl]
    unfold isPulse at hp ⊢
    rw [hk]; exact hp
  | false =>
    rw [st_put h1 h2 hp, getD_set (by omega), if_pos rfl] at h3
    omega
theorem sh_same {l : List VAct} {k : Nat} (hk : k < l.length) (h1 : ¬ (isPulse (l.getD k zA) = true ∧ (l.getD k zA).n = 0)) (h2 : ¬ Fresh (shortL l k) (l.getD k zA)) : (shortL l (k + 1)).length = (shortL l k).length := by
  rw [shortL_succ hk]
  cases hp : isPulse (l.getD k zA) with
  | true => rw [st_add h1 h2 hp, List.length_set]
  | false => rw [st_put h1 h2 hp, List.length_set]
theorem shk_big {l : List VAct} {k : Nat} (hk : k = l.length) (h : ¬ afault l ≠ 0) (h1 : (shortL l k).any big = true) : shortV l = ([], 2) := by subst hk; exact sh_big h h1
theorem shk_ok {l : List VAct} {k : Nat} (hk : k = l.length) (h : ¬ afault l ≠ 0) (h1 : (shortL l k).any big = false) : shortV l = (shortL l k, 0) := by subst hk; exact sh_ok h h1
theorem shk_low {l : List VAct} {k : Nat} (hk : k = l.length) (h : ¬ afault l ≠ 0) (h1 : Low 1000000000000 (shortL l k)) : shortV l = (shortL l k, 0) := shk_ok hk h (low_any h1)
theorem shk_over {l : List VAct} {k : Nat} (hk : k < l.length) (h : ¬ afault l ≠ 0) (h1 : Over (shortL l (k + 1))) : shortV l = ([], 2) := by
  have := over_later (af_zero h).1 h1 (l.length - (k + 1)) (by omega)
  rw [show k + 1 + (l.length - (k + 1)) = l.length by omega] at this
  exact sh_big h (over_any this)
theorem shk_bad {l : List VAct} {k : Nat} (hk : k < l.length) (h : validAct (l.getD k zA) = false) : shortV l = ([], 1) := by
  have e := af_bad' hk h
  rw [sh_bad (by rw [e]; decide), e]
theorem shk_long {l : List VAct} (h : l.any badA = false) (h1 : 60 < (l.length : Int)) : shortV l = ([], 3) := by
  have e := (af_long h h1).symm
  rw [sh_bad (by rw [e]; decide), e]
theorem af_zero' {l : List VAct} (h : l.any badA = false) (h1 : ¬ 60 < (l.length : Int)) : ¬ afault l ≠ 0 := by rw [← af_ok h h1]; decide
theorem put_add {l : List VAct} {k : Nat} (hk : k < l.length) (h1 : ¬ (isPulse (l.getD k zA) = true ∧ (l.getD k zA).n = 0)) (h2 : ¬ Fresh (shortL l k) (l.getD k zA)) (h3 : isPulse (l.getD k zA) = true) {q : Nat} (hq : q = ((shortL l k).length - 1) * 2 + 1) : put ((shortL l k).flatMap encA) q [.int .i64 (((shortL l k).getD ((shortL l k).length - 1) zA).n + (l.getD k zA).n)] = (shortL l (k + 1)).flatMap encA := by
  rw [shortL_succ hk, st_add h1 h2 h3]
  exact flat_putp encA_len zA (shortL l k) _ _ (by unfold Fresh at h2; omega) 1 _ rfl rfl hq
theorem put_put {l : List VAct} {k : Nat} (hk : k < l.length) (h1 : ¬ (isPulse (l.getD k zA) = true ∧ (l.getD k zA).n = 0)) (h2 : ¬ Fresh (shortL l k) (l.getD k zA)) (h3 : isPulse (l.getD k zA) = false) {q : Nat} (hq : q = ((shortL l k).length - 1) * 2) : put ((shortL l k).flatMap encA) q (encA (l.getD k zA)) = (shortL l (k + 1)).flatMap encA := by
  rw [shortL_succ hk, st_put h1 h2 h3]
  exact flat_putp encA_len zA (shortL l k) _ _ (by unfold Fresh at h2; omega) 0 _ rfl rfl (by omega)
end Go.W
