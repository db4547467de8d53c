/- Values in photos, films, ways: in plain numbers. -/
import Derived.Test.YthfbmkfbmmjchaaDoorM33
import Derived.Test.YthfbmkfbmmjchaaDoorF3
set_option linter.unusedVariables false
set_option linter.unusedSimpArgs false
namespace Go.W
open Go Go.Sx
/-! ### A list of lists of anything -/
structure VX (α : Type) where
  A : Option Addr
  c : Nat
  xs : List α
variable {α : Type}
def encX (r : VX α) : List Value := [.slice r.A r.xs.length r.c]
theorem encX_len : ∀ r : VX α, (encX r).length = 1 := fun _ => rfl
def zX : VX α := ⟨none, 0, []⟩
def rwX (f : α → List Value) (T : TypeId) (sz : Nat) (r : VX α) : Rw := ⟨.slice r.A r.xs.length r.c, T, sz, r.xs.length, r.xs.flatMap f⟩
theorem readsX {C : Cx} {m : List Ent} {i : Nat} {f : α → List Value} {T : TypeId} {sz : Nat} {K : List (VX α)} (hi : m[i]? = some (.pile (K.map (rwX f T sz)))) {k : Nat} (hk : k < K.length) : Reads C m (K.getD k zX).A ((K.getD k zX).xs.flatMap f) :=
  Reads.pile hi (E := T) (sz := sz) (List.mem_map.2 ⟨_, getD_mem zX hk, rfl⟩)
def outX (K : List (VX α)) (n : Nat) : List (VX α) := K ++ List.replicate (n - K.length) zX
theorem outX_len {K : List (VX α)} {n : Nat} (h : K.length ≤ n) : (outX K n).length = n := by unfold outX; simp; omega
theorem outX_all {K : List (VX α)} {n : Nat} (h : K.length = n) : outX K n = K := by unfold outX; rw [h]; simp
theorem outX_set {K : List (VX α)} {n : Nat} (r : VX α) (h : K.length < n) : (outX K n).set K.length r = outX (K ++ [r]) n := by
  unfold outX
  rw [List.set_append_right _ _ (Nat.le_refl _), Nat.sub_self, List.length_append]
  obtain ⟨j, hj⟩ : ∃ j, n - K.length = j + 1 := ⟨n - K.length - 1, by omega⟩
  rw [hj, List.replicate_succ, List.set_cons_zero, List.append_assoc, show n - (K.length + [r].length) = j by simp; omega]; rfl
theorem outX_put {K : List (VX α)} {n i : Nat} {v : List Value} (r : VX α) (h : K.length < n) (hi : i = K.length * 1) (hv : v = encX r) : put ((outX K n).flatMap encX) i v = (outX (K ++ [r]) n).flatMap encX := by
  subst hi hv
  rw [flat_put encX_len _ _ _ (by rw [outX_len (by omega)]; exact h), outX_set r h]
theorem zoutX {zs : List Value} {n : Nat} (h : zs = encX (zX : VX α)) : zerosL zs n = (outX ([] : List (VX α)) n).flatMap encX := by
  subst h; rw [zeros_flat encX_len zX (by omega) n]; unfold outX; simp
theorem outX_last {K : List (VX α)} {r : VX α} {n : Nat} : (outX (K ++ [r]) n).getD K.length zX = r := by
  unfold outX; simp [List.getD]
theorem cellE {β : Type} {C : Cx} {m : List Ent} {A : Option Addr} {f : β → List Value} {sz : Nat} {xs : List β} {i : Int} (j : Nat) {v : Value} {r : β} (H : Reads C m A (xs.flatMap f)) (hf : ∀ x, (f x).length = sz) (d : β) (k : Nat) (hk : Nat.blt k sz = true) (hi : i = (j : Int)) (hj : j < xs.length) (he : xs.getD j d = r) (hv : (f r)[k]? = some v) : CellO C m (offA A (i.toNat * sz + k)) v := by
  subst he; exact cellJ j H hf d k hk hi hj hv
theorem layX {C : Cx} {m F : List Ent} {f : α → List Value} {T : TypeId} {sz b n : Nat} {l : List α} {K : List (VX α)} (hl : l.length = n) (hp : m.Perm (.row (.slice (some ⟨b, 0, none⟩) n n) T sz n (l.flatMap f) :: .pile (K.map (rwX f T sz)) :: F)) : ∀ w, Holds C.base C.w0 m w → Holds C.base C.w0 (.pile ((K ++ [(⟨some ⟨b, 0, none⟩, n, l⟩ : VX α)]).map (rwX f T sz)) :: F) w := by
  subst hl
  rw [List.map_append]
  exact layEnd hp
end Go.W
namespace Go.W
open Go Go.Sx
/-! ### Values in a photo -/
def digI (m : VMk) : List Int := (digM m).map fun n : Nat => (n : Int)
def digP (m : VMk) (k : Nat) : List Int := ((List.range k).filter (hasM m)).map fun n : Nat => (n : Int)
theorem digP_all (m : VMk) : digP m 128 = digI m := rfl
theorem digP_y {m : VMk} {k : Nat} (h : hasM m k = true) : digP m (k + 1) = digP m k ++ [(k : Int)] := by
  unfold digP; rw [List.range_succ, List.filter_append, List.map_append]; simp [h]
theorem digP_n {m : VMk} {k : Nat} (h : hasM m k = false) : digP m (k + 1) = digP m k := by
  unfold digP; rw [List.range_succ, List.filter_append, List.map_append]; simp [h]
theorem digP_len (m : VMk) (k : Nat) : (digP m k).length ≤ k := by
  unfold digP; rw [List.length_map]; exact (filter_le k fun d hd _ => hd).1
theorem digI_len (m : VMk) : ((digI m).length : Int) = cntM m := by unfold digI; rw [List.length_map, cnt_dig]
theorem digI_len' (m : VMk) : (digI m).length ≤ 128 := digP_len m 128
theorem digP_end {m : VMk} {b : Nat} (hb : b ≤ 128) (h : ∀ d, d < 128 → hasM m d = true → d < b) : digP m b = digI m := by
  rw [← digP_all]
  have key : ∀ j, b + j ≤ 128 → digP m (b + j) = digP m b := by
    intro j
    induction j with
    | zero => intro _; rfl
    | succ j ih =>
      intro hj
      rw [← Nat.add_assoc, digP_n, ih (by omega)]
      cases hh : hasM m (b + j)
      · rfl
      · have := h (b + j) (by omega) hh; omega
  have := key (128 - b) (by omega)
  rw [show b + (128 - b) = 128 by omega] at this
  exact this.symm
theorem digI_has {m : VMk} {x : Int} (h : x ∈ digI m) : 0 ≤ x ∧ x < 128 ∧ hasM m x.toNat = true := by
  unfold digI at h
  obtain ⟨n, hn, rfl⟩ := List.mem_map.1 h
  have := List.mem_filter.1 hn
  refine ⟨Int.natCast_nonneg _, ?_, by simpa using this.2⟩
  have := this.1; simp at this; omega
/-- What one value makes of the digits of one more wheel. -/
def oneL (b : Int) (ds : List Int) (v : Int) : List Int := ds.map fun n => v * b + n
def stepV (b : Int) (ds out : List Int) : List Int := out.flatMap (oneL b ds)
def valW (s : List Int) (l : List VMk) : Nat → List Int
  | 0 => [0]
  | j + 1 => stepV (s.getD (s.length - 1 - j) 0) (digI (l.getD (s.length - 1 - j) zMk)) (valW s l j)
def valsP (s : List Int) (p : VPh) : List Int := valW s p.l s.length
theorem one_len (b : Int) (ds : List Int) (v : Int) : (oneL b ds v).length = ds.length := by simp [oneL]
theorem stp_len (b : Int) (ds : List Int) : ∀ out : List Int, (stepV b ds out).length = out.length * ds.length
  | [] => by simp [stepV]
  | v :: out => by
    have := stp_len b ds out
    unfold stepV at this ⊢
    rw [List.flatMap_cons, List.length_append, this, one_len, List.length_cons, Nat.succ_mul, Nat.add_comm]
def partV (b : Int) (ds out : List Int) (q r : Nat) : List Int := stepV b ds (out.take q) ++ oneL b (ds.take r) (out.getD q 0)
theorem ptv_0 (b : Int) (ds out : List Int) : partV b ds out 0 0 = [] := by simp [partV, stepV, oneL]
theorem ptv_snoc {b : Int} {ds out : List Int} {q r : Nat} (hr : r < ds.length) : partV b ds out q (r + 1) = partV b ds out q r ++ [out.getD q 0 * b + ds.getD r 0] := by
  unfold partV oneL
  rw [List.take_succ_eq_append_getElem hr, List.map_append, List.append_assoc]
  simp [List.getD, hr]
theorem ptv_next {b : Int} {ds out : List Int} {q r : Nat} (hq : q < out.length) (hr : r = ds.length) : partV b ds out q r = partV b ds out (q + 1) 0 := by
  subst hr
  unfold partV stepV
  rw [List.take_length, List.take_succ_eq_append_getElem hq, List.flatMap_append]
  simp [oneL, List.getD, hq]
theorem ptv_all {b : Int} {ds out : List Int} : partV b ds out out.length 0 = stepV b ds out := by unfold partV; simp [oneL]
theorem ptv_len (b : Int) (ds out : List Int) (q r : Nat) (hq : q < out.length) (hr : r ≤ ds.length) : (partV b ds out q r).length ≤ out.length * ds.length := by
  unfold partV
  rw [List.length_append, stp_len, one_len, List.length_take, List.length_take, Nat.min_eq_left (by omega), Nat.min_eq_left hr]
  have : (q + 1) * ds.length ≤ out.length * ds.length := Nat.mul_le_mul_right _ (by omega)
  rw [Nat.succ_mul] at this; omega
theorem valW_len {s : List Int} {l : List VMk} : ∀ j, j ≤ s.length → ((valW s l j).length : Int) * choV l (s.length - j) = choV l s.length
  | 0, _ => by simp [valW]
  | j + 1, h => by
    have ih := valW_len (s := s) (l := l) j (by omega)
    rw [valW, stp_len, Int.natCast_mul, digI_len]
    rw [show s.length - j = (s.length - 1 - j) + 1 by omega, choV] at ih
    rw [show s.length - (j + 1) = s.length - 1 - j by omega, Int.mul_assoc, Int.mul_comm (cntM _), ih]
theorem valsP_len (s : List Int) (p : VPh) : ((valsP s p).length : Int) = choV p.l s.length := by
  have := valW_len (s := s) (l := p.l) s.length (Nat.le_refl _)
  rw [Nat.sub_self, choV, Int.mul_one] at this
  exact this
theorem valW_le {s : List Int} {l : List VMk} (h : PhOk s l) (hs : Stk s) {j : Nat} (hj : j ≤ s.length) : 1 ≤ ((valW s l j).length : Int) ∧ ((valW s l j).length : Int) ≤ choV l s.length := by
  have h1 := valW_len (s := s) (l := l) j hj
  have h2 := cho_le h hs (i := s.length - j) (by omega)
  have h3 := cho_le h hs (i := s.length) (by omega)
  rcases Nat.eq_zero_or_pos (valW s l j).length with h0 | h0
  · rw [h0] at h1; simp at h1; omega
  · refine ⟨by omega, ?_⟩
    have : ((valW s l j).length : Int) * 1 ≤ ((valW s l j).length : Int) * choV l (s.length - j) := Int.mul_le_mul_of_nonneg_left h2.1 (by omega)
    omega
theorem valW_bd {s : List Int} {l : List VMk} (h : PhOk s l) (hs : Stk s) : ∀ j, j ≤ s.length → ∀ v ∈ valW s l j, 0 ≤ v ∧ v < prod (s.drop (s.length - j))
  | 0, _, v, hv => by simp [valW] at hv; subst hv; simp [prod]
  | j + 1, hj, v, hv => by
    have ih := valW_bd h hs j (by omega)
    rw [valW] at hv
    obtain ⟨u, hu, hv⟩ := List.mem_flatMap.1 hv
    obtain ⟨n, hn, rfl⟩ := List.mem_map.1 hv
    have hn := digI_has hn
    have h1 := ih u hu
    have hi : s.length - 1 - j < s.length := by omega
    have h2 := h.lt _ hi n.toNat (by omega) hn.2.2
    have hb := hs.bases _ hi
    rw [show s.length - (j + 1) = s.length - 1 - j by omega, prod_drop hi]
    rw [show s.length - j = s.length - 1 - j + 1 by omega] at h1
    generalize s.getD (s.length - 1 - j) 0 = b at *
    generalize prod (s.drop (s.length - 1 - j + 1)) = P at *
    have h3 : 0 ≤ u * b := Int.mul_nonneg h1.1 (by omega)
    have h4 : (u + 1) * b ≤ P * b := Int.mul_le_mul_of_nonneg_right (by omega) (by omega)
    rw [Int.add_mul, Int.mul_comm P b] at h4
    omega
theorem valW_at {s : List Int} {l : List VMk} (h : PhOk s l) (hs : Stk s) {j : Nat} (hj : j ≤ s.length) (q : Nat) : 0 ≤ (valW s l j).getD q 0 ∧ (valW s l j).getD q 0 < 1000000000000 := by
  rcases Nat.lt_or_ge q (valW s l j).length with hq | hq
  · have h1 := valW_bd h hs j hj _ (getD_mem 0 hq)
    have h2 := prod_drop_le hs.bases (s.length - j)
    have := hs.le
    omega
  · simp [List.getD, hq]
theorem valW_mul {s : List Int} {l : List VMk} (h : PhOk s l) (hs : Stk s) {j : Nat} (hj : j + 1 ≤ s.length) (q : Nat) : 0 ≤ (valW s l j).getD q 0 * s.getD (s.length - 1 - j) 0 ∧ (valW s l j).getD q 0 * s.getD (s.length - 1 - j) 0 ≤ 100000000000000 := by
  have h1 := valW_at h hs (j := j) (by omega) q
  have hb := hs.bases (s.length - 1 - j) (by omega)
  refine ⟨Int.mul_nonneg h1.1 (by omega), ?_⟩
  have : (valW s l j).getD q 0 * s.getD (s.length - 1 - j) 0 ≤ 1000000000000 * 100 := Int.mul_le_mul (by omega) hb.2 (by omega) (by omega)
  omega
def vinV (s : List Int) (p : VPh) : List Int × Int := if validPh s p = false then ([], 1) else if 400 < choV p.l s.length then ([], 3) else (valsP s p, 0)
end Go.W
