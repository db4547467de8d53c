/- What is sure: rows that are changed in a pile, photos that are changed in a row. -/
import Derived.Test.YtplljnddhkleaaaM46
set_option linter.unusedVariables false
set_option linter.unusedSimpArgs false
namespace Go.W
open Go Go.Sx
/-! rows with other contents -/
def rowsW {α : Type} (J : List (VX α)) (G : Nat → List α) : List (VX α) := (List.range J.length).map fun q => ⟨(J.getD q zX).A, (J.getD q zX).c, G q⟩
section
variable {α : Type} {J : List (VX α)} {G G' : Nat → List α} {k : Nat}
theorem rowsW_len (J : List (VX α)) (G : Nat → List α) : (rowsW J G).length = J.length := by simp [rowsW]
theorem rowsW_at (h : k < J.length) : (rowsW J G).getD k zX = ⟨(J.getD k zX).A, (J.getD k zX).c, G k⟩ := by simp [rowsW, List.getD, h]
theorem rowsW_congr (h : ∀ q, q < J.length → G q = G' q) : rowsW J G = rowsW J G' := by
  unfold rowsW
  refine List.map_congr_left fun q hq => ?_
  rw [h q (by simpa using hq)]
theorem rowsW_0 (h : ∀ q, q < J.length → (J.getD q zX).xs = G q) : rowsW J G = J := by
  refine List.ext_getElem (rowsW_len J G) fun q h1 h2 => ?_
  have h3 := h q h2
  simp only [rowsW, List.getElem_map, List.getElem_range]
  rw [← h3]
  simp [List.getD, h2]
theorem readsW {C : Cx} {m : List Ent} {i : Nat} {f : α → List Value} {T : TypeId} {sz : Nat} (hi : m[i]? = some (.pile ((rowsW J G).map (rwX f T sz)))) (hk : k < J.length) {xs : List α} (hx : G k = xs) : Reads C m (J.getD k zX).A (xs.flatMap f) := by
  subst hx
  have h1 := readsX (C := C) hi (k := k) (by rw [rowsW_len]; exact hk)
  rw [rowsW_at hk] at h1
  exact h1
theorem rowsW_split (h : k < J.length) : rowsW J G = (rowsW J G).take k ++ ⟨(J.getD k zX).A, (J.getD k zX).c, G k⟩ :: (rowsW J G).drop (k + 1) := by
  have h1 : k < (rowsW J G).length := by rw [rowsW_len]; exact h
  have h2 := List.drop_eq_getElem_cons h1
  have h3 : (rowsW J G)[k] = ⟨(J.getD k zX).A, (J.getD k zX).c, G k⟩ := by rw [← rowsW_at h]; simp [List.getD, h1]
  rw [← h3, ← h2, List.take_append_drop]
theorem rowsW_other (h : ∀ q, q ≠ k → G q = G' q) : (rowsW J G).take k = (rowsW J G').take k ∧ (rowsW J G).drop (k + 1) = (rowsW J G').drop (k + 1) := by
  constructor
  · refine List.ext_getElem? fun q => ?_
    rw [List.getElem?_take, List.getElem?_take]
    split
    · next hq =>
      unfold rowsW
      rw [List.getElem?_map, List.getElem?_map]
      rcases Nat.lt_or_ge q J.length with h1 | h1
      · rw [List.getElem?_range h1]; simp [h q (by omega)]
      · rw [List.getElem?_eq_none (by simpa using h1)]; rfl
    · rfl
  · refine List.ext_getElem? fun q => ?_
    rw [List.getElem?_drop, List.getElem?_drop]
    unfold rowsW
    rw [List.getElem?_map, List.getElem?_map]
    rcases Nat.lt_or_ge (k + 1 + q) J.length with h1 | h1
    · rw [List.getElem?_range h1]; simp [h (k + 1 + q) (by omega)]
    · rw [List.getElem?_eq_none (by simpa using h1)]; rfl
theorem liftW {C : Cx} {m F : List Ent} {f : α → List Value} {T : TypeId} {sz n : Nat} {xs : List α} (h : k < J.length) (hx : G k = xs) (hl : xs.length = n) (hp : m.Perm (.pile ((rowsW J G).map (rwX f T sz)) :: F)) : ∀ w, Holds C.base C.w0 m w → Holds C.base C.w0 (.row (.slice (J.getD k zX).A n (J.getD k zX).c) T sz n (xs.flatMap f) :: .pile (((rowsW J G).take k).map (rwX f T sz) ++ ((rowsW J G).drop (k + 1)).map (rwX f T sz)) :: F) w := by
  subst hx hl
  exact liftAt (r := rwX f T sz ⟨(J.getD k zX).A, (J.getD k zX).c, G k⟩) (by conv => lhs; rw [rowsW_split h, List.map_append, List.map_cons]) hp
theorem layW {C : Cx} {m F : List Ent} {f : α → List Value} {T : TypeId} {sz n : Nat} {xs : List α} (h : k < J.length) (ho : ∀ q, q ≠ k → G q = G' q) (hx : G' k = xs) (hl : xs.length = n) (hp : m.Perm (.row (.slice (J.getD k zX).A n (J.getD k zX).c) T sz n (xs.flatMap f) :: .pile (((rowsW J G).take k).map (rwX f T sz) ++ ((rowsW J G).drop (k + 1)).map (rwX f T sz)) :: F)) : ∀ w, Holds C.base C.w0 m w → Holds C.base C.w0 (.pile ((rowsW J G').map (rwX f T sz)) :: F) w := by
  subst hx hl
  obtain ⟨h1, h2⟩ := rowsW_other (J := J) ho
  rw [h1, h2] at hp
  have h3 := layHolds (C := C) hp
  rw [rowsW_split (G := G') h, List.map_append, List.map_cons]
  exact h3
end
/-! the rows as they are turned from the last -/
def mixE (lo hi : Int) (F : Nat → List Int) (n t k : Nat) : List Bool := (endL lo hi F n (t + 1)).take k ++ (reachL lo hi F (n - 2 - t)).drop k
def Gst (lo hi : Int) (F : Nat → List Int) (n t k q : Nat) : List Bool := if q < n - 2 - t then reachL lo hi F q else if q = n - 2 - t then mixE lo hi F n t k else endL lo hi F n (n - 1 - q)
def Gt (lo hi : Int) (F : Nat → List Int) (n t q : Nat) : List Bool := if q + 1 + t < n then reachL lo hi F q else endL lo hi F n (n - 1 - q)
section
variable {lo hi : Int} {F : Nat → List Int} {n t k : Nat}
theorem mix_len (ht : t + 2 ≤ n) (hk : k ≤ (F (n - 2 - t)).length) : (mixE lo hi F n t k).length = (F (n - 2 - t)).length := by
  have h1 := end_len lo hi F n (t + 1) (by omega)
  rw [show n - 1 - (t + 1) = n - 2 - t by omega] at h1
  unfold mixE
  rw [List.length_append, List.length_take, List.length_drop, h1, reach_len]; omega
theorem mix_0 : mixE lo hi F n t 0 = reachL lo hi F (n - 2 - t) := by simp [mixE]
theorem mix_all (ht : t + 2 ≤ n) (hk : k = (F (n - 2 - t)).length) : mixE lo hi F n t k = endL lo hi F n (t + 1) := by
  have h1 := end_len lo hi F n (t + 1) (by omega)
  rw [show n - 1 - (t + 1) = n - 2 - t by omega] at h1
  unfold mixE
  rw [hk, List.drop_of_length_le (by rw [reach_len]; exact Nat.le_refl _), List.append_nil, ← h1, List.take_length]
theorem mix_at (ht : t + 2 ≤ n) (hk : k < (F (n - 2 - t)).length) : (mixE lo hi F n t k).getD k false = (reachL lo hi F (n - 2 - t)).getD k false := by
  have h1 := end_len lo hi F n (t + 1) (by omega)
  rw [show n - 1 - (t + 1) = n - 2 - t by omega] at h1
  unfold mixE
  simp only [List.getD]
  rw [List.getElem?_append_right (by simp; omega), List.length_take, h1, List.getElem?_drop, show k + (k - min k (F (n - 2 - t)).length) = k by omega]
theorem mix_set (ht : t + 2 ≤ n) (hk : k < (F (n - 2 - t)).length) : (mixE lo hi F n t k).set k ((endL lo hi F n (t + 1)).getD k false) = mixE lo hi F n t (k + 1) := by
  have h1 := end_len lo hi F n (t + 1) (by omega)
  rw [show n - 1 - (t + 1) = n - 2 - t by omega] at h1
  unfold mixE
  rw [List.set_append_right _ _ (by simp; omega), List.length_take, h1, show k - min k (F (n - 2 - t)).length = 0 by omega, List.drop_eq_getElem_cons (show k < (reachL lo hi F (n - 2 - t)).length by rw [reach_len]; exact hk), List.set_cons_zero, List.take_succ_eq_append_getElem (show k < (endL lo hi F n (t + 1)).length by rw [h1]; exact hk), List.append_assoc]
  simp [List.getD, h1, hk]
theorem mix_put {q : Nat} {v : List Value} (ht : t + 2 ≤ n) (hk : k < (F (n - 2 - t)).length) (hq : q = k * 1) (hv : v = eB ((reachL lo hi F (n - 2 - t)).getD k false && endA lo hi ((F (n - 2 - t)).getD k 0) (F (n - 1 - t)) (endL lo hi F n t) (F (n - 1 - t)).length)) : put ((mixE lo hi F n t k).flatMap eB) q v = (mixE lo hi F n t (k + 1)).flatMap eB := by
  subst hq hv
  rw [flat_put eB_len _ _ _ (by rw [mix_len ht (by omega)]; exact hk), ← end_at hk, mix_set ht hk]
theorem gst_0 (ht : t + 2 ≤ n) (q : Nat) : Gst lo hi F n t 0 q = Gt lo hi F n t q := by
  unfold Gst Gt
  by_cases h1 : q < n - 2 - t
  · rw [if_pos h1, if_pos (by omega)]
  · rw [if_neg h1]
    by_cases h2 : q = n - 2 - t
    · rw [if_pos h2, if_pos (by omega), mix_0, h2]
    · rw [if_neg h2, if_neg (by omega)]
theorem gst_all (ht : t + 2 ≤ n) (hk : k = (F (n - 2 - t)).length) (q : Nat) : Gst lo hi F n t k q = Gt lo hi F n (t + 1) q := by
  unfold Gst Gt
  by_cases h1 : q < n - 2 - t
  · rw [if_pos h1, if_pos (by omega)]
  · rw [if_neg h1]
    by_cases h2 : q = n - 2 - t
    · rw [if_pos h2, if_neg (by omega), mix_all ht hk, h2, show n - 1 - (n - 2 - t) = t + 1 by omega]
    · rw [if_neg h2, if_neg (by omega)]
theorem gst_at : Gst lo hi F n t k (n - 2 - t) = mixE lo hi F n t k := by unfold Gst; rw [if_neg (by omega), if_pos rfl]
theorem gst_next (ht : t + 2 ≤ n) : Gst lo hi F n t k (n - 2 - t + 1) = endL lo hi F n t := by unfold Gst; rw [if_neg (by omega), if_neg (by omega), show n - 1 - (n - 2 - t + 1) = t by omega]
theorem gst_other {k' q : Nat} (h : q ≠ n - 2 - t) : Gst lo hi F n t k q = Gst lo hi F n t k' q := by unfold Gst; rw [if_neg h, if_neg h]
theorem gt_0 (h : 0 < n) {q : Nat} (hq : q < n) : reachL lo hi F q = Gt lo hi F n 0 q := by
  unfold Gt; split
  · rfl
  · rw [show n - 1 - q = 0 by omega, endL, show q = n - 1 by omega]
theorem gt_end (ht : n ≤ t + 1) (q : Nat) : Gt lo hi F n t q = endL lo hi F n (n - 1 - q) := by
  unfold Gt; rw [if_neg (by omega)]
theorem ea_y {v : Int} {nv : List Int} {e : List Bool} {j m : Nat} (h : endA lo hi v nv e j = true) (hj : j ≤ m) : true = endA lo hi v nv e m := (ea_true h hj).symm
theorem ea_f {v : Int} {nv : List Int} {e : List Bool} {j : Nat} (h : endA lo hi v nv e j = false) (hr : e.getD j false = false) : false = endA lo hi v nv e (j + 1) := by rw [ea_s, h, hr]; rfl
theorem ea_g {v : Int} {nv : List Int} {e : List Bool} {j : Nat} (h : endA lo hi v nv e j = false) (hr : e.getD j false = true) : goesB lo hi v (nv.getD j 0) = endA lo hi v nv e (j + 1) := by rw [ea_s, h, hr]; rfl
end
/-! photos of what is sure -/
def okMs (l : List VMk) : Prop := ∀ q, OkMk (l.getD q zMk)
theorem okMs_z : okMs zPh.l := fun q => by
  match q with
  | 0 => exact okZ
  | 1 => exact okZ
  | 2 => exact okZ
  | 3 => exact okZ
  | 4 => exact okZ
  | 5 => exact okZ
  | 6 => exact okZ
  | 7 => exact okZ
  | _ + 8 => exact okZ
theorem putW_ok {s d : List Int} {l : List VMk} (hl : okMs l) (hd : ∀ w, w < s.length → (d.getD w 0).toNat < 128) : ∀ w, w ≤ s.length → okMs (putW s d l w)
  | 0, _ => hl
  | w + 1, h => by
    have ih := putW_ok hl hd w (by omega)
    intro q
    rw [putW, putD]
    simp only [List.getD, List.getElem?_set]
    split
    · split
      · exact putM_ok (ih w) (hd w (by omega))
      · exact okZ
    · exact ih q
theorem putW_put {s d : List Int} {l : List VMk} {w q : Nat} {v : List Value} (hl : l.length = 8) (hw : w < 8) (hq : q = w * 2) (hv : v = encMk (putM ((putW s d l w).getD w zMk) (d.getD w 0).toNat)) : put ((putW s d l w).flatMap encMk) q v = (putW s d l (w + 1)).flatMap encMk := by
  subst hq hv
  rw [flat_put encMk_len _ _ _ (by rw [putW_len, hl]; exact hw)]; rfl
theorem digs_lt {s : List Int} {v : Int} (hs : Stk s) (w : Nat) (hw : w < s.length) : (((dig (digs s v)).l).getD w 0).toNat < 128 := by
  rw [dig_l (digs_len s v)]
  have h1 := digOk hs.len8 (digs_num (v := v) hs.bases) (digs_valid hs) w hw
  have h2 := hs.bases w hw
  omega
theorem sure_ok {s vs : List Int} {ok : Nat → Bool} (hs : Stk s) : ∀ i, okMs (sureM s vs ok i)
  | 0 => okMs_z
  | i + 1 => by
    rw [sureM]; split
    · exact putW_ok (sure_ok hs i) (fun w hw => by have := digs_lt (v := vs.getD i 0) hs w hw; rwa [dig_l (digs_len s _)] at this) _ (Nat.le_refl _)
    · exact sure_ok hs i
theorem sure_y {s vs : List Int} {ok : Nat → Bool} {i w : Nat} (h : ok i = true) (hw : w = s.length) : putW s (dig (digs s (vs.getD i 0))).l (sureM s vs ok i) w = sureM s vs ok (i + 1) := by
  rw [hw, dig_l (digs_len s _), sureM, if_pos h]
theorem sure_n {s vs : List Int} {ok : Nat → Bool} {i : Nat} (h : ok i = false) : sureM s vs ok i = sureM s vs ok (i + 1) := by
  rw [sureM, if_neg (by rw [h]; exact Bool.false_ne_true)]
def sureK (s : List Int) (F : Nat → List Int) (n : Nat) (lo hi : Int) (k i : Nat) : List VMk := sureM s (F k) (okAt lo hi lo F n k) i
def sureP (s : List Int) (F : Nat → List Int) (n : Nat) (lo hi : Int) : List VPh := (List.range n).map fun k => phot (sureK s F n lo hi k (F k).length)
theorem sureP_len (s : List Int) (F : Nat → List Int) (n : Nat) (lo hi : Int) : (sureP s F n lo hi).length = n := by simp [sureP]
theorem sureP_at {s : List Int} {F : Nat → List Int} {n : Nat} {lo hi : Int} {k : Nat} (h : k < n) : (sureP s F n lo hi).getD k zPh = phot (sureK s F n lo hi k (F k).length) := by simp [sureP, List.getD, h]
theorem sureP_eq {s : List Int} {L : List VPh} {K : List (VX Int)} {n : Nat} (hx : K.map (·.xs) = filmL s L) (hn : n = L.length) (lo hi : Int) : sureP s (fun k => (K.getD k zX).xs) n lo hi = surePs s L lo hi := by
  rw [kx_fun hx, hn]; rfl
theorem sureK_len {s : List Int} {F : Nat → List Int} {n : Nat} {lo hi : Int} {k i : Nat} : (sureK s F n lo hi k i).length = 8 := sure_len ..
/-! a photo in a row of them -/
def rowS (P : List VPh) (k : Nat) (m : List VMk) : List VPh := (Sx.part zPh P k).set k (phot m)
theorem rowS_len {P : List VPh} {k : Nat} {m : List VMk} (h : k ≤ P.length) : (rowS P k m).length = P.length := by unfold rowS; rw [List.length_set, part_len _ _ _ h]
theorem rowS_at {P : List VPh} {k : Nat} {m : List VMk} (h : k < P.length) : (rowS P k m).getD k zPh = phot m := by
  unfold rowS; simp [List.getD, part_len zPh P k (by omega), h]
theorem rowS_0 {P : List VPh} {k : Nat} (h : k < P.length) : Sx.part zPh P k = rowS P k zPh.l := by
  unfold rowS
  refine List.ext_getElem? fun j => ?_
  rw [List.getElem?_set]
  split
  · next e =>
    subst e
    rw [part_len _ _ _ (by omega), if_pos h]
    unfold Sx.part
    rw [List.getElem?_append_right (by simp; omega), List.getElem?_replicate, if_pos (by simp; omega)]; rfl
  · rfl
theorem rowS_put {P : List VPh} {k w q : Nat} {m : List VMk} {y : VMk} {v : List Value} (hm : m.length = 8) (h : k < P.length) (hw : w < 8) (hq : q = k * 16 + w * 2) (hv : v = encMk y) : put ((rowS P k m).flatMap encPh) q v = (rowS P k (m.set w y)).flatMap encPh := by
  subst hv
  have h1 : k < (rowS P k m).length := by rw [rowS_len (by omega)]; exact h
  rw [flat_putp encPh_len zPh (rowS P k m) k (phot (m.set w y)) h1 (w * 2) (encMk y) (Nat.ble_eq_true_of_le (by rw [encMk_len]; omega)) ?_ hq]
  · unfold rowS; rw [List.set_set]
  · rw [rowS_at h, encPh_ph hm, encPh_ph (by rw [List.length_set, hm]), flat_put encMk_len _ _ _ (by omega)]
theorem rowS_fin {P : List VPh} {k : Nat} {m : List VMk} (h : k < P.length) (hm : phot m = P.getD k zPh) : rowS P k m = Sx.part zPh P (k + 1) := by
  unfold rowS; rw [hm, part_set _ _ _ _ h]
theorem segS {C : Cx} {e : List Ent} {A : Option Addr} {P : List VPh} {k w : Nat} {i j : Int} {m : List VMk} (H : Reads C e A ((rowS P k m).flatMap encPh)) (hm : m.length = 8) (h : k < P.length) (hw : w < 8) (hi : i = (k : Int)) (hj : j = (w : Int)) : SegO C e (offA A (i.toNat * 16 + j.toNat * 2)) (encMk (m.getD w zMk)) := by
  subst hi hj
  refine partN H encPh_len zPh (w * 2) 2 (Nat.ble_eq_true_of_le (by omega)) rfl (by rw [rowS_len (by omega)]; exact h) ?_
  rw [rowS_at h, encPh_ph hm, flat_seg encMk_len zMk m w (by omega)]
theorem photo_snoc {P : List VPh} {k : Nat} {m : List VMk} (h : k < P.length) (hl : m.length = 8) (hm : phot m = P.getD k zPh) : (P.take k).flatMap encPh ++ m.flatMap encMk = (P.take (k + 1)).flatMap encPh := by
  rw [List.take_succ_eq_append_getElem h, List.flatMap_append, ← encPh_ph hl, hm]
  simp [List.getD, h]
theorem photo_snoc2 {P : List VPh} {k : Nat} {q : VPh} (h : k < P.length) (hm : P.getD k zPh = q) : (P.take k).flatMap encPh ++ encPh q = (P.take (k + 1)).flatMap encPh := by
  rw [List.take_succ_eq_append_getElem h, List.flatMap_append, ← hm]
  simp [List.getD, h]
theorem perm_5 {m : List Ent} {a b c d e : Ent} (i j k l q : Nat) (h1 : m[i]? = some a) (h2 : (m.eraseIdx i)[j]? = some b) (h3 : ((m.eraseIdx i).eraseIdx j)[k]? = some c) (h4 : (((m.eraseIdx i).eraseIdx j).eraseIdx k)[l]? = some d) (h5 : ((((m.eraseIdx i).eraseIdx j).eraseIdx k).eraseIdx l)[q]? = some e) : m.Perm ([a, b, c, d, e] ++ ((((m.eraseIdx i).eraseIdx j).eraseIdx k).eraseIdx l).eraseIdx q) :=
  (perm_at h1).trans (List.Perm.cons a ((perm_at h2).trans (List.Perm.cons b ((perm_at h3).trans (List.Perm.cons c ((perm_at h4).trans (List.Perm.cons d (perm_at h5))))))))
/-! the answer -/
theorem sure_c {s : List Int} {L : List VPh} {lo hi : Int} (h : codeF s L lo hi lo ≠ 0) : sureV s L lo hi = ([], codeF s L lo hi lo) := by unfold sureV; rw [if_pos h]
theorem sure_6 {s : List Int} {L : List VPh} {K : List (VX Int)} {lo hi : Int} {n : Nat} (h : codeF s L lo hi lo = 0) (hx : K.map (·.xs) = filmL s L) (hn : n = L.length) (hb : (reachL lo hi (fun k => (K.getD k zX).xs) (n - 1)).any id = false) : sureV s L lo hi = ([], 6) := by
  rw [kx_fun hx, hn] at hb
  unfold sureV; rw [if_neg (fun h9 => h9 h), if_pos hb]
theorem sure_0 {s : List Int} {L : List VPh} {K : List (VX Int)} {lo hi : Int} {n : Nat} (h : codeF s L lo hi lo = 0) (hx : K.map (·.xs) = filmL s L) (hn : n = L.length) (hb : (reachL lo hi (fun k => (K.getD k zX).xs) (n - 1)).any id = true) : sureV s L lo hi = (sureP s (fun k => (K.getD k zX).xs) n lo hi, 0) := by
  rw [sureP_eq hx hn]
  rw [kx_fun hx, hn] at hb
  unfold sureV; rw [if_neg (fun h9 => h9 h), if_neg (by rw [hb]; exact fun h => nomatch h)]
theorem sure_le {s : List Int} {L : List VPh} {lo hi : Int} : (sureV s L lo hi).1.length ≤ 20 := by
  unfold sureV
  split
  · simp
  · next h =>
    split
    · simp
    · have hl := (cf_of (Decidable.not_not.1 h)).2.2.1.1
      show (surePs s L lo hi).length ≤ 20
      simp only [surePs, List.length_map, List.length_range]; omega
theorem end_anyF {lo hi : Int} {F : Nat → List Int} {n : Nat} (hn : 0 < n) {b : Bool} (h : (endL lo hi F n (n - 1 - 0)).any id = b) : (reachL lo hi F (n - 1)).any id = b := by
  have := end_any (lo := lo) (hi := hi) (F := F) (n := n) (t := n - 1 - 0) (by omega)
  cases b with
  | true => exact this.1 h
  | false => rw [← Bool.not_eq_true] at h ⊢; exact fun h2 => h (this.2 h2)
theorem end_okF {lo hi us : Int} {F : Nat → List Int} {n k i : Nat} (hk : k < n) (hi2 : i < (F k).length) {b : Bool} (h : (endL lo hi F n (n - 1 - k)).getD i false = b) : okAt lo hi us F n k i = b := by
  have e : n - 1 - (n - 1 - k) = k := by omega
  have := end_ok (lo := lo) (hi := hi) (us := us) (F := F) (n := n) (t := n - 1 - k) (i := i) (by omega) (by rw [e]; exact hi2)
  rw [e] at this; rw [← this, h]
theorem ok_yF {lo hi us : Int} {F : Nat → List Int} {n k i : Nat} {c : List Int} (hc : c = costL lo hi us F n (n - 1 - k)) (h1 : (reachL lo hi F k).getD i false = true) (h2 : ¬ c.getD i 0 < 0) : okAt lo hi us F n k i = true := by
  subst hc; unfold okAt; rw [h1, Bool.true_and]; exact decide_eq_true (by omega)
theorem ok_n1F {lo hi us : Int} {F : Nat → List Int} {n k i : Nat} (h1 : (reachL lo hi F k).getD i false = false) : okAt lo hi us F n k i = false := by
  unfold okAt; rw [h1]; rfl
theorem ok_yG {lo hi us : Int} {F : Nat → List Int} {n k i : Nat} {r : List Bool} {c : List Int} (hr : r = reachL lo hi F k) (hc : c = costL lo hi us F n (n - 1 - k)) (h1 : r.getD i false = true) (h2 : ¬ c.getD i 0 < 0) : okAt lo hi us F n k i = true := by subst hr; exact ok_yF hc h1 h2
theorem ok_n1G {lo hi us : Int} {F : Nat → List Int} {n k i : Nat} {r : List Bool} (hr : r = reachL lo hi F k) (h1 : r.getD i false = false) : okAt lo hi us F n k i = false := by subst hr; exact ok_n1F h1
theorem ok_n2F {lo hi us : Int} {F : Nat → List Int} {n k i : Nat} {c : List Int} (hc : c = costL lo hi us F n (n - 1 - k)) (h2 : c.getD i 0 < 0) : okAt lo hi us F n k i = false := by
  subst hc; unfold okAt; rw [decide_eq_false (by omega), Bool.and_false]
end Go.W
