/- Rows of strings; texts joined. -/
import Derived.Test.YthfbmkfbmmjchaaDoorF12
import Derived.Lib.Join
set_option linter.unusedVariables false
set_option linter.unusedSimpArgs false
namespace Go.Sx
open Go Go.RowKit
variable {C : Cx} {env env' : Env} {m m' : List Ent} {o : Oper} {K : Env → List Ent → Prop}
def eSt (l : List UInt8) : List Value := [sv l]
theorem eSt_len : ∀ l, (eSt l).length = 1 := fun _ => rfl
def mkB (l : List UInt8) : ByteArray := ⟨l.toArray⟩
theorem mkB_data (l : List UInt8) : (mkB l).data.toList = l := rfl
theorem mkB_map (xs : List (List UInt8)) : (xs.map mkB).map (·.data.toList) = xs := by
  rw [List.map_map]
  exact List.map_id _
theorem join_pre {w : World} {A : Option Addr} {xs : List (List UInt8)} (h : Rd w A (xs.flatMap eSt)) (h0 : 0 < xs.length) : ∃ bk o', A = some ⟨bk, o', none⟩ ∧ bk < w.heap.size ∧ ∀ (j : Nat) x, (xs.map mkB)[j]? = some x → w.cell? ⟨bk, o' + j, none⟩ = some (.string x) := by
  have hget : ∀ j (hj : j < xs.length), (xs.flatMap eSt)[j]? = some (sv (xs.getD j [])) := fun j hj => by
    have := flat_get eSt_len ([] : List UInt8) xs j 0 hj (by omega)
    simp only [Nat.mul_one, Nat.add_zero] at this
    rw [this]; rfl
  obtain ⟨⟨bk, o', sp⟩, rfl, hc⟩ := h 0 _ (hget 0 h0)
  have hz : (⟨bk, o', sp⟩ : Addr).add 0 = ⟨bk, o', sp⟩ := by unfold Addr.add; simp
  rw [hz] at hc
  have hsp : sp = none := by simpa using World.cell?_spot hc
  subst hsp
  refine ⟨bk, o', rfl, World.block_lt_of_cell? _ _ hc, fun j x hx => ?_⟩
  have hj : j < xs.length := by have := (List.getElem?_eq_some_iff.1 hx).1; simpa using this
  obtain ⟨ad, e1, hc'⟩ := h j _ (hget j hj)
  obtain rfl := Option.some.inj e1
  rw [add_at] at hc'
  rw [hc']
  rw [List.getElem?_map] at hx
  have hg : xs[j]? = some xs[j] := List.getElem?_eq_getElem hj
  rw [hg] at hx
  simp only [Option.map_some, Option.some.injEq] at hx
  rw [← hx]
  simp [List.getD, hj, sv, mkB]
theorem row_cap' {i n c sz : Nat} {A : Option Addr} {E xs} (hi : m[i]? = some (.row (.slice A n c) E sz n xs)) : ∀ w, Holds C.base C.w0 m w → n ≤ c := fun w hw => by
  have h := hw.all _ (List.mem_of_getElem? hi)
  rcases h.2 with ⟨hv, h0⟩ | ⟨g, cap, cur, hv, _, _, hc, _⟩
  · omega
  · simp only [Value.slice.injEq] at hv
    omega
theorem agS {a b : List UInt8} (h : a = b) : (some (sv a) : Option Value) = some (sv b) := by rw [h]
theorem itoa_neg {n : Int} (h : n < 0) : Lib.itoa n = 45 :: Lib.itoa (-n) := by
  rw [itoa_nn (n := -n) (by omega)]
  unfold Lib.itoa
  rw [if_pos h]
  congr 2
  omega
end Go.Sx
