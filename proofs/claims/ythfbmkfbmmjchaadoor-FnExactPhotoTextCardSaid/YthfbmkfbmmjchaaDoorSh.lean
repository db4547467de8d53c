/- What a value that came in looks like: its cells, one by one. -/
import Derived.Test.YthfbmkfbmmjchaaDoorFw
import Derived.ProofKit
import Derived.OpenShut
set_option linter.unusedVariables false
set_option linter.unusedSimpArgs false
namespace Go.Sx
open Go Go.RowKit Go.WideShapes
/-- These cells can be read as one of type t. -/
def Cl (P : Program) (W : World) (t : TypeId) (cs : List Value) : Prop :=
  ∃ (H : Type) (enc : TypeId × Value → H) (fuel : Nat) (d : DataW H) (ps : List MemPlace), DataW.trod enc P W 0 (fun _ => true) true fuel t cs = some (d, ps)
variable {P : Program} {W : World} {t e : TypeId} {cs : List Value}
theorem Cl.int {k : IntKind} (ht : P.underlying t = some (.int k)) (h : Cl P W t cs) : ∃ n, cs = [.int k n] ∧ (Lit.int k n).wf = true := by
  obtain ⟨H, enc, fuel, d, ps, h⟩ := h
  cases fuel with
  | zero => simp [DataW.trod] at h
  | succ fuel =>
    simp only [DataW.trod, ht] at h
    split at h <;> first | (cases h; done) | skip
    all_goals simp_all
theorem Cl.bool (ht : P.underlying t = some .bool) (h : Cl P W t cs) : ∃ b, cs = [.bool b] := by
  obtain ⟨H, enc, fuel, d, ps, h⟩ := h
  cases fuel with
  | zero => simp [DataW.trod] at h
  | succ fuel =>
    simp only [DataW.trod, ht] at h
    split at h <;> first | (cases h; done) | skip
    all_goals simp_all
theorem Cl.string (ht : P.underlying t = some .string) (h : Cl P W t cs) : ∃ s, cs = [.string s] ∧ s.size ≤ maxLen := by
  obtain ⟨H, enc, fuel, d, ps, h⟩ := h
  cases fuel with
  | zero => simp [DataW.trod] at h
  | succ fuel =>
    simp only [DataW.trod, ht] at h
    split at h <;> first | (cases h; done) | skip
    all_goals simp_all
theorem mapM_some {α β : Type} {f : α → Option β} : ∀ {l : List α} {r : List β}, l.mapM f = some r → ∀ x ∈ l, ∃ y, f x = some y
  | [], r, h, x, hx => by simp at hx
  | a :: l, r, h, x, hx => by
    rw [List.mapM_cons] at h
    cases ha : f a with
    | none => simp [ha] at h
    | some y =>
      cases hl : l.mapM f with
      | none => simp [ha, hl] at h
      | some ys =>
        rcases List.mem_cons.1 hx with rfl | hx
        · exact ⟨y, ha⟩
        · exact mapM_some hl x hx
theorem Cl.struct {fs : Array Field} (ht : P.underlying t = some (.struct fs)) (h : Cl P W t cs) : cs.length = P.cellsOf t ∧ ∀ f ∈ fs.toList, Cl P W f.type ((cs.drop f.offset).take (P.cellsOf f.type)) := by
  obtain ⟨H, enc, fuel, d, ps, h⟩ := h
  cases fuel with
  | zero => simp [DataW.trod] at h
  | succ fuel =>
    simp only [DataW.trod, ht] at h
    by_cases hc : cs.length = P.cellsOf t
    · rw [if_pos hc] at h
      refine ⟨hc, fun f hf => ?_⟩
      cases hm : (fs.toList.mapM fun f => DataW.trod enc P W 0 (fun _ => true) true fuel f.type ((cs.drop f.offset).take (P.cellsOf f.type))) with
      | none => rw [hm] at h; cases h
      | some xs =>
        obtain ⟨⟨d', p'⟩, hy⟩ := mapM_some hm f hf
        exact ⟨H, enc, fuel, d', p', hy⟩
    · rw [if_neg hc] at h; cases h
theorem Cl.array {n : Nat} (ht : P.underlying t = some (.array n e)) (h : Cl P W t cs) : cs.length = P.cellsOf t ∧ ∀ i, i < n → Cl P W e ((cs.drop (i * P.cellsOf e)).take (P.cellsOf e)) := by
  obtain ⟨H, enc, fuel, d, ps, h⟩ := h
  cases fuel with
  | zero => simp [DataW.trod] at h
  | succ fuel =>
    simp only [DataW.trod, ht] at h
    by_cases hc : cs.length = P.cellsOf t
    · rw [if_pos hc] at h
      refine ⟨hc, fun i hi => ?_⟩
      cases hm : ((List.range n).mapM fun i => DataW.trod enc P W 0 (fun _ => true) true fuel e ((cs.drop (i * P.cellsOf e)).take (P.cellsOf e))) with
      | none => rw [hm] at h; cases h
      | some xs =>
        obtain ⟨⟨d', p'⟩, hy⟩ := mapM_some hm i (by simpa using hi)
        exact ⟨H, enc, fuel, d', p', hy⟩
    · rw [if_neg hc] at h; cases h
theorem mapM_get {α β : Type} {f : α → Option β} : ∀ {l : List α} {r : List β}, l.mapM f = some r → r.length = l.length ∧ ∀ (i : Nat) (x : α), l[i]? = some x → ∃ y, f x = some y ∧ r[i]? = some y
  | [], r, h => by simp at h; subst h; simp
  | a :: l, r, h => by
    rw [List.mapM_cons] at h
    cases ha : f a with
    | none => simp [ha] at h
    | some y =>
      cases hl : l.mapM f with
      | none => simp [ha, hl] at h
      | some ys =>
        simp only [ha, hl, Option.pure_def, Option.bind_eq_bind, Option.bind_some, Option.some.injEq] at h
        subst h
        obtain ⟨h1, h2⟩ := mapM_get hl
        refine ⟨by simp [h1], fun i x hx => ?_⟩
        cases i with
        | zero => simp at hx; subst hx; exact ⟨y, ha, rfl⟩
        | succ i => exact h2 i x (by simpa using hx)
theorem cells_get {w : World} {a : Addr} {n : Nat} {cs : List Value} (h : w.cells? 0 a n = some cs) : cs.length = n ∧ ∀ (i : Nat) (u : Value), cs[i]? = some u → w.cell? (a.add i) = some u := by
  simp only [World.cells?, Nat.zero_le, if_true] at h
  obtain ⟨h1, h2⟩ := mapM_get h
  rw [List.length_range] at h1
  refine ⟨h1, fun i u hu => ?_⟩
  have hi : i < n := by rw [← h1]; exact (List.getElem?_eq_some_iff.1 hu).1
  obtain ⟨y, hy, hr⟩ := h2 i i (List.getElem?_range hi)
  rw [hu] at hr
  cases hr
  exact hy
theorem Cl.slice (ht : P.underlying t = some (.slice e)) (hp : 0 < P.cellsOf e) (h : Cl P W t cs) : ∃ A n c, cs = [.slice A n c] ∧ n ≤ maxLen ∧ ∃ els : List (List Value), els.length = n ∧ (∀ x ∈ els, x.length = P.cellsOf e ∧ Cl P W e x) ∧ Rd W A els.flatten := by
  obtain ⟨H, enc, fuel, d, ps, h⟩ := h
  cases fuel with
  | zero => simp [DataW.trod] at h
  | succ fuel =>
    simp only [DataW.trod, ht] at h
    split at h <;> first | (cases h; done) | skip
    all_goals first
      | (rename_i heq; cases heq; done)
      | skip
    · simp only [Option.some.injEq, TypeDesc.slice.injEq] at *
      subst_vars
      exact ⟨none, 0, 0, rfl, Nat.zero_le _, [], rfl, by simp, Rd.nil _ _⟩
    · rename_i e' a len cap heq
      simp only [Option.some.injEq, TypeDesc.slice.injEq] at heq
      subst heq
      split at h
      · rename_i hc
        refine ⟨some a, len, cap, rfl, by omega, ?_⟩
        cases hm : ((List.range len).mapM fun i => (W.cells? 0 (a.add (i * P.cellsOf e)) (P.cellsOf e)).bind (DataW.trod enc P W 0 (fun _ => true) true fuel e)) with
        | none => rw [hm] at h; cases h
        | some xs =>
          have hel : ∀ i, i < len → ∃ ci, W.cells? 0 (a.add (i * P.cellsOf e)) (P.cellsOf e) = some ci ∧ Cl P W e ci := fun i hi => by
            obtain ⟨⟨d', p'⟩, hy⟩ := mapM_some hm i (by simpa using hi)
            cases hci : W.cells? 0 (a.add (i * P.cellsOf e)) (P.cellsOf e) with
            | none => rw [hci] at hy; cases hy
            | some ci => rw [hci] at hy; exact ⟨ci, rfl, H, enc, fuel, d', p', hy⟩
          have hlen : ∀ i : Nat, ((W.cells? 0 (a.add (i * P.cellsOf e)) (P.cellsOf e)).getD (List.replicate (P.cellsOf e) undef)).length = P.cellsOf e := fun i => by
            cases hci : W.cells? 0 (a.add (i * P.cellsOf e)) (P.cellsOf e) with
            | none => simp
            | some ci => simpa using (cells_get hci).1
          refine ⟨(List.range len).map fun i => (W.cells? 0 (a.add (i * P.cellsOf e)) (P.cellsOf e)).getD (List.replicate (P.cellsOf e) undef), by simp, ?_, ?_⟩
          · intro x hx
            obtain ⟨i, hi, rfl⟩ := List.mem_map.1 hx
            obtain ⟨ci, h1, h2⟩ := hel i (by simpa using hi)
            refine ⟨hlen i, ?_⟩
            rw [h1]; exact h2
          · rw [← List.flatMap_def]
            intro j u hj
            refine ⟨a, rfl, ?_⟩
            have hjl : j < len * P.cellsOf e := by
              have := (List.getElem?_eq_some_iff.1 hj).1
              rw [flat_len hlen, List.length_range] at this
              exact this
            have h1 : j / P.cellsOf e < len := Nat.div_lt_of_lt_mul (by rw [Nat.mul_comm]; exact hjl)
            have h2 : j % P.cellsOf e < P.cellsOf e := Nat.mod_lt _ hp
            have h3 := flat_get hlen 0 (List.range len) (j / P.cellsOf e) (j % P.cellsOf e) (by simpa using h1) h2
            have h4 : j / P.cellsOf e * P.cellsOf e + j % P.cellsOf e = j := by rw [Nat.mul_comm]; exact Nat.div_add_mod j _
            rw [h4, hj] at h3
            have h5 : (List.range len).getD (j / P.cellsOf e) 0 = j / P.cellsOf e := by simp [List.getD, h1]
            rw [h5] at h3
            obtain ⟨ci, hci, _⟩ := hel _ h1
            rw [hci] at h3
            have := (cells_get hci).2 _ u h3.symm
            rwa [Addr.add_add, h4] at this
      · cases h
/-- Elements that each are one of f's are f's row. -/
theorem each {α : Type} {f : α → List Value} {p : α → Prop} : ∀ {els : List (List Value)}, (∀ x ∈ els, ∃ y, x = f y ∧ p y) → ∃ ys : List α, els.flatten = ys.flatMap f ∧ ys.length = els.length ∧ ∀ y ∈ ys, p y
  | [], _ => ⟨[], rfl, rfl, by simp⟩
  | x :: t, h => by
    obtain ⟨y, hy, hp⟩ := h x (by simp)
    obtain ⟨ys, h1, h2, h3⟩ := each (els := t) fun z hz => h z (by simp [hz])
    refine ⟨y :: ys, by rw [List.flatten_cons, List.flatMap_cons, ← h1, hy], by simp [h2], fun z hz => ?_⟩
    rcases List.mem_cons.1 hz with rfl | hz
    · exact hp
    · exact h3 z hz
/-- A value as its cells. -/
theorem cl_of {H : Type} {enc : TypeId × Value → H} {v : Value} {d : DataW H} {ps : List MemPlace} (h : DataW.Trod enc P W 0 (fun _ => true) true t v d ps) : Cl P W t v.cells.toList := by
  obtain ⟨fuel, h⟩ := h
  exact ⟨H, enc, fuel, d, ps, h⟩
theorem agg_of {r : Reach} {base : Nat} {v : Value} {d : TypeDesc} (ht : P.underlying t = some d) (hd : aggD d = true) (h : Value.okWide P W r base t v) : ∃ cs : List Value, v = .agg cs.toArray := by
  cases d <;> simp [aggD] at hd <;> simp only [Value.okWide, ht] at h <;> (obtain ⟨cs, rfl, _⟩ := h; exact ⟨cs.toList, by simp⟩)
end Go.Sx
