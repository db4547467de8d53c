/- Parts of slices. -/
import Derived.Test.YtepahnikcojepaaM21
set_option linter.unusedVariables false
set_option linter.unusedSimpArgs false
namespace Go.Sx
open Go Go.RowKit
variable {C : Cx} {env : Env} {m : List Ent} {o : Oper}
/-- Where the rest of a slice begins. -/
def cutA (A : Option Addr) (c k sz : Nat) : Option Addr := if c = k then A else offA A (k * sz)
theorem fr_slice_h {T x y E A n c k} {q : Int} (h : Nat) (hq : q = (h : Nat)) (ho : o.op = .slice T x none (some y) none) (hx : ev env x = some (.slice A n c)) (hy : ev env y = some (.int k q)) (hT : C.P.underlying T = some (.slice E)) {sz : Nat} (hs : (C.P.info? E).map (·.size) = some sz) (hb : h ≤ c) : Free C o env m (.slice A h c) := by
  subst hq
  intro a w hr _
  have ht' : C.P.underlying T = some (.slice (C.P.elem T)) := by simp [Program.elem, hT]
  have he : C.P.elem T = E := by simp [Program.elem, hT]
  have h2 := run_slice_h (P := C.P) w T A n c ht' k (h : Int) (by omega) (by omega)
  rw [he, run_sizeOf hs w, Result.andThen_ok] at h2
  have h3 : sliced A 0 ((h : Int).toNat) c sz = .slice A h c := by
    unfold sliced
    rw [Int.toNat_natCast, Nat.zero_mul, Nat.sub_zero, Nat.sub_zero]
    have : A.map (·.add 0) = A := by cases A <;> rfl
    rw [this]; simp
  rw [h3] at h2
  simp only [execOp, ho, hr.ev hx, Option.map_none, Option.map_some, hr.ev hy, run_sliceAt_slice w T _ _ _ _ ht', Sem.run_bind, h2, Result.andThen_ok, Sem.run_pure]
theorem fr_slice_l {T x y E A n c k} {q : Int} (h : Nat) (hq : q = (h : Nat)) (ho : o.op = .slice T x (some y) none none) (hx : ev env x = some (.slice A n c)) (hy : ev env y = some (.int k q)) (hT : C.P.underlying T = some (.slice E)) {sz : Nat} (hs : (C.P.info? E).map (·.size) = some sz) (hb : h ≤ n) : Free C o env m (.slice (cutA A c h sz) (n - h) (c - h)) := by
  subst hq
  intro a w hr _
  have ht' : C.P.underlying T = some (.slice (C.P.elem T)) := by simp [Program.elem, hT]
  have he : C.P.elem T = E := by simp [Program.elem, hT]
  have h2 := run_slice_l (P := C.P) w T A n c ht' k (h : Int) (by omega) (by omega)
  rw [he, run_sizeOf hs w, Result.andThen_ok] at h2
  have h3 : sliced A ((h : Int).toNat) n c sz = .slice (cutA A c h sz) (n - h) (c - h) := by
    unfold sliced cutA offA
    rw [Int.toNat_natCast]
  rw [h3] at h2
  simp only [execOp, ho, hr.ev hx, Option.map_none, Option.map_some, hr.ev hy, run_sliceAt_slice w T _ _ _ _ ht', Sem.run_bind, h2, Result.andThen_ok, Sem.run_pure]
variable {α : Type} {f : α → List Value} {sz : Nat} {A : Option Addr} {l : List α}
theorem flat_take (hf : ∀ x, (f x).length = sz) (w : Nat) : (l.take w).flatMap f = (l.flatMap f).take (w * sz) := by
  induction l generalizing w with
  | nil => simp
  | cons x t ih =>
    cases w with
    | zero => simp
    | succ k =>
      rw [List.take_succ_cons, List.flatMap_cons, List.flatMap_cons, ih, List.take_append, hf, Nat.succ_mul, Nat.add_sub_cancel, show (f x).take (k * sz + sz) = f x from List.take_of_length_le (by rw [hf]; exact Nat.le_add_left _ _)]
theorem flat_drop (hf : ∀ x, (f x).length = sz) (w : Nat) : (l.drop w).flatMap f = (l.flatMap f).drop (w * sz) := by
  induction l generalizing w with
  | nil => simp
  | cons x t ih =>
    cases w with
    | zero => simp
    | succ k =>
      rw [List.drop_succ_cons, List.flatMap_cons, ih, List.drop_append, hf, Nat.succ_mul, Nat.add_sub_cancel, show (f x).drop (k * sz + sz) = [] from List.drop_of_length_le (by rw [hf]; exact Nat.le_add_left _ _), List.nil_append]
theorem RdB.take {base : Nat} {w : World} {cs : List Value} (h : RdB base w A cs) (k : Nat) : RdB base w A (cs.take k) := fun j u hj => by
  refine h j u ?_
  rw [List.getElem?_take] at hj
  split at hj
  · exact hj
  · cases hj
theorem RdB.drop {base : Nat} {w : World} {cs : List Value} (h : RdB base w A cs) (k : Nat) : RdB base w (offA A k) (cs.drop k) := fun j u hj => by
  rw [List.getElem?_drop] at hj
  obtain ⟨ad, rfl, h1, h2⟩ := h _ u hj
  exact ⟨ad.add k, rfl, by rw [add_block]; exact h1, by rw [Addr.add_add]; exact h2⟩
theorem RdB.takeL {base : Nat} {w : World} (h : RdB base w A (l.flatMap f)) (hf : ∀ x, (f x).length = sz) (k : Nat) : RdB base w A ((l.take k).flatMap f) := by rw [flat_take hf]; exact h.take _
theorem RdB.dropL {base : Nat} {w : World} {c : Nat} (h : RdB base w A (l.flatMap f)) (hf : ∀ x, (f x).length = sz) (hc : l.length ≤ c) (k : Nat) : RdB base w (cutA A c k sz) ((l.drop k).flatMap f) := by
  unfold cutA
  split
  · rw [List.drop_of_length_le (by omega)]; intro j u hj; simp at hj
  · rw [flat_drop hf]; exact h.drop _
theorem RdB.some {base : Nat} {w : World} (h : RdB base w A (l.flatMap f)) (hf : ∀ x, (f x).length = sz) (hp : 0 < sz) (hl : 0 < l.length) : ∃ ad, A = some ad := by
  cases l with
  | nil => simp at hl
  | cons x t =>
    have h1 : ((x :: t).flatMap f)[0]? = some ((f x)[0]'(by rw [hf]; exact hp)) := by
      rw [List.flatMap_cons, List.getElem?_append_left (by rw [hf]; exact hp), List.getElem?_eq_getElem (by rw [hf]; exact hp)]
    obtain ⟨ad, h2, _⟩ := h 0 _ h1
    exact ⟨ad, h2⟩
theorem cutA_some {ad : Addr} {c k sz : Nat} : cutA (Option.some ad) c k sz ≠ none := by unfold cutA; split <;> simp [offA]
end Go.Sx
