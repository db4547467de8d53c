/- The next value in a photo: what the program puts together. -/
import Derived.Test.YtplljnddhkleaaaM49
import Derived.Test.YtplljnddhkleaaaF7
set_option linter.unusedVariables false
set_option linter.unusedSimpArgs false
namespace Go.W
open Go Go.Sx Go.RowKit
theorem reads2 {α : Type} {w : World} {f : α → List Value} {a b : VX α} (h0 : Rd w a.A (a.xs.flatMap f)) (h1 : Rd w b.A (b.xs.flatMap f)) : ∀ k, k < [a, b].length → Rd w ([a, b].getD k zX).A (([a, b].getD k zX).xs.flatMap f) := fun k hk => by
  match k, hk with
  | 0, _ => exact h0
  | 1, _ => exact h1
theorem some2 {α : Type} {a b : VX α} (h0 : a.A ≠ none) (h1 : b.A ≠ none) : ∀ k, k < [a, b].length → ([a, b].getD k zX).A = none → ([a, b].getD k zX).xs.length = 0 ∧ ([a, b].getD k zX).c = 0 := fun k hk e => by
  match k, hk with
  | 0, _ => exact absurd e h0
  | 1, _ => exact absurd e h1
theorem readsZ {C : Cx} {m : List Ent} {α : Type} {f : α → List Value} {sz i n c k : Nat} {E : TypeId} {A : Option Addr} {z : α} {zs : List Value} (hi : m[i]? = some (Ent.row (.slice A n c) E sz n (zerosL zs n))) (hz : zs = f z) (hf : ∀ x, (f x).length = sz) (hp : Nat.blt 0 sz = true) (hn : n = k) : Reads C m A ((List.replicate k z).flatMap f) := by
  subst hn; exact Reads.zeros hi hz hf hp
theorem cut_some {a : Addr} {c k sz : Nat} : cutA (some a) c k sz ≠ none := by
  unfold cutA; split
  · exact fun h => nomatch h
  · exact fun h => nomatch h
theorem segAll {C : Cx} {m : List Ent} {A : Option Addr} {cs seg : List Value} (H : Reads C m A cs) (he : cs = seg) (hne : seg ≠ []) : SegO C m A seg := by
  subst he
  unfold SegO
  unfold Reads at H
  intro w hw
  cases cs with
  | nil => exact absurd rfl hne
  | cons x t =>
    obtain ⟨ad, rfl, _⟩ := H w hw 0 x rfl
    refine ⟨ad, rfl, fun j u hj => ?_⟩
    obtain ⟨ad', h1, hc⟩ := H w hw j u hj
    obtain rfl := Option.some.inj h1
    exact hc
theorem tailP {l : List VMk} {i : Nat} (h8 : l.length = 8) (hi : i < 8) : (l.drop (i + 1) ++ List.replicate (i + 1) zMk).length = 8 := by simp; omega
theorem tailD {d : List Int} {i : Nat} (h8 : d.length = 8) (hi : i < 8) : (d.drop (i + 1) ++ List.replicate (i + 1) (0 : Int)).length = 8 := by simp; omega
theorem catP {a b : VX VMk} {l : List VMk} {i : Nat} (h8 : l.length = 8) (hi : i < 8) (ha : a.xs = l.drop (i + 1)) (hb : b.xs = List.replicate (i + 1) zMk) : (catX [a, b] [a, b].length).flatMap encMk = encPh (phot (l.drop (i + 1) ++ List.replicate (i + 1) zMk)) := by
  rw [catX_2, ha, hb, encPh_ph (tailP h8 hi)]
theorem catD {a b : VX Int} {d : List Int} {i : Nat} (h8 : d.length = 8) (hi : i < 8) (ha : a.xs = d.drop (i + 1)) (hb : b.xs = List.replicate (i + 1) (0 : Int)) : (catX [a, b] [a, b].length).flatMap (eI .u8) = encD (dig (d.drop (i + 1) ++ List.replicate (i + 1) (0 : Int))) := by
  rw [catX_2, ha, hb, encD_dig (tailD h8 hi)]
theorem catX_l {α : Type} {a b : VX α} {n : Nat} (h : a.xs.length + b.xs.length = n) : (catX [a, b] [a, b].length).length = n := by rw [catX_2, List.length_append, h]
theorem okTail {p : VPh} (hp : OkPh p) {i : Nat} (hi : i < 8) : OkPh (phot (p.l.drop (i + 1) ++ List.replicate (i + 1) zMk)) := fun j hj => by
  rw [phot_l (tailP (ph_len p) hi)]
  rcases Nat.lt_or_ge (i + 1 + j) 8 with h | h
  · rw [tail_at (by rw [ph_len]; exact h)]; exact hp _ h
  · simp only [List.getD]
    rw [List.getElem?_append_right (by simp [ph_len]; omega), List.getElem?_replicate]
    split
    · exact okZ
    · exact okZ
theorem upTail {s : List Int} {p : VPh} {d : List Int} {i : Nat} (h8 : s.length ≤ 8) (hd : d.length = 8) (hi : i < s.length) : showsM (s.drop (i + 1)) (phot (p.l.drop (i + 1) ++ List.replicate (i + 1) zMk)).l (dig (d.drop (i + 1) ++ List.replicate (i + 1) (0 : Int))).l = upA s.length p.l d i := by
  rw [phot_l (tailP (ph_len p) (by omega)), dig_l (tailD hd (by omega))]
  exact up_shows hi (fun j hj => tail_at (by rw [ph_len]; omega)) (fun j hj => tail_at (by omega))
theorem dgTail {s : List Int} {d : List Int} {i : Nat} (hS : Stk s) (hD : DigOk s d) (hd : d.length = 8) (hi : i < s.length) : ∀ j, j < (s.drop (i + 1)).length → 0 ≤ (dig (d.drop (i + 1) ++ List.replicate (i + 1) (0 : Int))).l.getD j 0 ∧ (dig (d.drop (i + 1) ++ List.replicate (i + 1) (0 : Int))).l.getD j 0 ≤ 127 := fun j hj => by
  have h8 := hS.len8
  have hj2 : j < s.length - (i + 1) := by simpa using hj
  rw [dig_l (tailD hd (by omega)), tail_at (by omega)]
  have h1 := hD (i + 1 + j) (by omega)
  have h2 := hS.bases (i + 1 + j) (by omega)
  omega
theorem Ex.blkTo {C : Cx} {c : Code} {env : Env} {m : List Ent} {Q : Post} {i b : Nat} {cs cs' : List Value} {T : TypeId} (hi : m[i]? = some (.blk b cs T)) (h : cs = cs') (k : Ex C c env (m.set i (.blk b cs' T)) Q) : Ex C c env m Q := by
  subst h
  have : m.set i (.blk b cs T) = m := by
    refine List.ext_getElem? fun j => ?_
    rw [List.getElem?_set]
    split
    · next e => subst e; split
                · exact hi.symm
                · next h => rw [List.getElem?_eq_none (by omega)] at hi; cases hi
    · rfl
  rwa [this] at k
theorem set_put {d : List Int} {i q : Nat} {z : Int} {v : List Value} (h8 : d.length = 8) (h : i < 8) (hq : q = i * 1) (hv : v = eI .u8 z) : put (d.flatMap (eI .u8)) q v = encD (dig (d.set i z)) := by
  subst hq hv
  rw [flat_put (eI_len .u8) _ _ _ (by omega), encD_dig (by rw [List.length_set, h8])]
def ninV (s : List Int) (p : VPh) (v : Int) : Int × Int :=
  if validPh s p = false then (0, 1) else if ¬ (0 ≤ v ∧ v ≤ size s - 1) then (0, 2)
  else if (nextV s p.l (dig (digs s v)).l).2 = true then ((nextV s p.l (dig (digs s v)).l).1, 0) else (0, 6)
theorem ni_1 {s : List Int} {p : VPh} {v : Int} (h : validPh s p = false) : ninV s p v = (0, 1) := by unfold ninV; rw [if_pos h]
theorem ni_2 {s : List Int} {p : VPh} {v : Int} (h : validPh s p = true) (h2 : ¬ (0 ≤ v ∧ v ≤ size s - 1)) : ninV s p v = (0, 2) := by unfold ninV; rw [if_neg (by rw [h]; decide), if_pos h2]
theorem ni_y {s : List Int} {p : VPh} {v : Int} (h : validPh s p = true) (h2 : 0 ≤ v ∧ v ≤ size s - 1) (h3 : (nextV s p.l (dig (digs s v)).l).2 = true) : ninV s p v = ((nextV s p.l (dig (digs s v)).l).1, 0) := by unfold ninV; rw [if_neg (by rw [h]; decide), if_neg (fun h9 => h9 h2), if_pos h3]
theorem ni_n {s : List Int} {p : VPh} {v : Int} (h : validPh s p = true) (h2 : 0 ≤ v ∧ v ≤ size s - 1) (h3 : (nextV s p.l (dig (digs s v)).l).2 = false) : ninV s p v = (0, 6) := by unfold ninV; rw [if_neg (by rw [h]; decide), if_neg (fun h9 => h9 h2), if_neg (by rw [h3]; decide)]
theorem nx_sv {s : List Int} {l : List VMk} {v : Int} (hs : Stk s) (h0 : 0 ≤ v) (h1 : v < prod s) (h : showsM s l (dig (digs s v)).l = true) : nextV s l (dig (digs s v)).l = (v, true) := by
  rw [nx_s h, dig_l (digs_len s v), val_of' hs h0 h1]
theorem nx_yE {s : List Int} {l : List VMk} {d : List Int} {i : Nat} {z : Int} (h8 : d.length = 8) (hz : fromM (l.getD i zMk) ((d.getD i 0).toNat + 1) = z) (h : showsM s l d = false) (hi : i < s.length) (hall : ∀ j, j < i → cand s.length l d j = false) (hu : upA s.length l d i = true) (hc : 0 ≤ z) : nextV s l d = (val s (dig (leastD l (dig (d.set i z)).l i)).l, true) := by
  subst hz
  rw [dig_l (s := d.set i _) (by rw [List.length_set, h8])]
  exact nx_yD h hi hall hu hc
end Go.W
