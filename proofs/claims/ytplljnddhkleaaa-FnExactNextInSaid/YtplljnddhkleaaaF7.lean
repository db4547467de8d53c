/- The rest of an array; what stands behind a drawn region. -/
import Derived.Test.YtplljnddhkleaaaF6
set_option linter.unusedVariables false
set_option linter.unusedSimpArgs false
namespace Go.Sx
open Go Go.RowKit
variable {C : Cx} {env : Env} {m : List Ent} {o : Oper} {Q : Post}
theorem fr_sliceArr_l {T x y E k} {N b n' : Nat} {q : Int} (h : Nat) (hq : q = (h : Nat)) (ho : o.op = .slice T x (some y) none none) (hx : ev env x = some (.pointer (some ⟨b, 0, none⟩))) (hy : ev env y = some (.int k q)) (hT : C.P.underlying T = some (.array N E)) {sz : Nat} (hs : (C.P.info? E).map (·.size) = some sz) (hb : h ≤ N) (hn : N - h = n') : Free C o env m (.slice (cutA (some ⟨b, 0, none⟩) N h sz) n' (N - h)) := by
  subst hq hn
  intro a w hr _
  have hal : C.P.arrayLen T = N := by simp [Program.arrayLen, hT]
  have he : C.P.elem T = E := by simp [Program.elem, hT]
  have ht' : C.P.underlying T = some (.array (C.P.arrayLen T) (C.P.elem T)) := by rw [hal, he, hT]
  have h2 := run_sliceAt_array_l (P := C.P) w T ⟨b, 0, none⟩ ht' k (h : Int) (by omega) (by omega)
  rw [he, run_sizeOf hs w, Result.andThen_ok, hal] at h2
  have h3 : slicedAt ⟨b, 0, none⟩ ((h : Int).toNat) N N sz = .slice (cutA (some ⟨b, 0, none⟩) N h sz) (N - h) (N - h) := by
    unfold slicedAt cutA offA
    rw [Int.toNat_natCast]
    split <;> rfl
  rw [h3] at h2
  simp only [execOp, ho, hr.ev hx, Option.map_none, Option.map_some, hr.ev hy, Sem.run_bind, h2, Result.andThen_ok, Sem.run_pure]
theorem fr_slice_lx {T x y E A n c k n'} {q : Int} (h : Nat) (hq : q = (h : Nat)) (ho : o.op = .slice T x (some y) none none) (hx : ev env x = some (.slice A n c)) (hy : ev env y = some (.int k q)) (hT : C.P.underlying T = some (.slice E)) {sz : Nat} (hs : (C.P.info? E).map (·.size) = some sz) (hb : h ≤ n) (hn : n - h = n') : Free C o env m (.slice (cutA A c h sz) n' (c - h)) := by
  subst hn; exact fr_slice_l h hq ho hx hy hT hs hb
theorem Reads.dropL {α : Type} {f : α → List Value} {sz c : Nat} {A : Option Addr} {l : List α} (h : Reads C m A (l.flatMap f)) (hf : ∀ x, (f x).length = sz) (hc : l.length ≤ c) (k : Nat) : Reads C m (cutA A c k sz) ((l.drop k).flatMap f) := by
  unfold cutA
  split
  · rw [List.drop_of_length_le (by omega)]
    unfold Reads
    intro w hw j u hj; simp at hj
  · have h2 : (l.drop k).flatMap f = (l.flatMap f).drop (k * sz) := by
      rcases Nat.lt_or_ge k l.length with h3 | h3
      · have h4 : ((l.take k).flatMap f).length = k * sz := by rw [flat_len hf, List.length_take]; congr 1; omega
        have h5 : l.flatMap f = (l.take k).flatMap f ++ (l.drop k).flatMap f := by rw [← List.flatMap_append, List.take_append_drop]
        rw [h5, ← h4, List.drop_left]
      · rw [List.drop_of_length_le h3, List.drop_of_length_le (by rw [flat_len hf]; exact Nat.mul_le_mul_right _ h3)]; rfl
    rw [h2]; exact h.seg _
theorem Reads.zeros {α : Type} {f : α → List Value} {sz i n c : Nat} {E : TypeId} {A : Option Addr} {z : α} {zs : List Value} (hi : m[i]? = some (Ent.row (.slice A n c) E sz n (zerosL zs n))) (hz : zs = f z) (hf : ∀ x, (f x).length = sz) (hp : Nat.blt 0 sz = true) : Reads C m A ((List.replicate n z).flatMap f) := by
  subst hz
  rw [← zeros_flat hf z (by simpa using hp)]
  exact Reads.row hi
theorem Ex.cutM {id : Nat} {l : List Oper} {y : Code} (kn kp : Env) (hK : Agree kp env) (hm : C.P.follows .mixedOrders = true) (h1 : ExD C l m l.length [] env m (fun env' m' => Agree (kn ++ kp) env' ∧ ∃ t is, pickT m' t is = some m ∧ freshT t is = true)) (h2 : Ex C y (kn ++ kp) m Q) (hrd : regOk C.rd l = true := by rfl) : Ex C (.seq (.region id l.toArray true) y) env m Q := by
  refine Ex.seq (Ex.mono (Ex.draw (Q := Sq (fun env' m' => Agree (kn ++ kp) env' ∧ ∃ t is, pickT m' t is = some m ∧ freshT t is = true) (fun _ _ _ => False)) m hm h1 hrd) ?_)
  rintro e env' m' hq
  cases e with
  | normal =>
    obtain ⟨ha, t, is, hp, hf⟩ := hq
    exact fun a w hr hh => h2 a w (hr.agree ha) (hh.pickT hp hf)
  | exit k => exact hq.elim
  | goto k => exact hq.elim
  | ret => exact hq.elim
  | panic k => exact hq.elim
  | outgrown => exact hq.elim
end Go.Sx
