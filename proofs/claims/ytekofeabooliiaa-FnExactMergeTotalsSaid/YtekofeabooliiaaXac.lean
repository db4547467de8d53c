/- Several texts, one behind the other. -/
import Derived.Test.YtekofeabooliiaaXaa
import Derived.Test.YtekofeabooliiaaXab
/- The rest of an array; what stands behind a drawn region. -/
set_option linter.unusedVariables false
set_option linter.unusedSimpArgs false
namespace Go.Sx
open Go Go.RowKit
variable {C : Cx} {env : Env} {m : List Ent} {o : Oper} {Q : Post}
theorem fr_sliceArr_l {T x y E k} {N b n' : Nat} {q : Int} (h : Nat) (hq : q = (h : Nat)) (ho : o.op = .slice T x (some y) none none) (hx : ev env x = some (.pointer (some ⟨b, 0, none⟩))) (hy : ev env y = some (.int k q)) (hT : C.P.underlying T = some (.array N E)) {sz : Nat} (hs : (C.P.info? E).map (·.size) = some sz) (hb : h ≤ N) (hn : N - h = n') : Free C o env m (.slice (cutA (some ⟨b, 0, none⟩) N h sz) n' (N - h)) := by
  subst hq hn
  intro a w hr _
  have hal : C.P.arrayLen T = N := by simp [Program.arrayLen, hT]
  have he : C.P.elem T = E := by simp [Program.elem, hT]
  have ht' : C.P.underlying T = some (.array (C.P.arrayLen T) (C.P.elem T)) := by rw [hal, he, hT]
  have h2 := run_sliceAt_array_l (P := C.P) w T ⟨b, 0, none⟩ ht' k (h : Int) (by omega) (by omega)
  rw [he, run_sizeOf hs w, Result.andThen_ok, hal] at h2
  have h3 : slicedAt ⟨b, 0, none⟩ ((h : Int).toNat) N N sz = .slice (cutA (some ⟨b, 0, none⟩) N h sz) (N - h) (N - h) := by
    unfold slicedAt cutA offA
    rw [Int.toNat_natCast]
    split <;> rfl
  rw [h3] at h2
  simp only [execOp, ho, hr.ev hx, Option.map_none, Option.map_some, hr.ev hy, Sem.run_bind, h2, Result.andThen_ok, Sem.run_pure]
theorem fr_slice_lx {T x y E A n c k n'} {q : Int} (h : Nat) (hq : q = (h : Nat)) (ho : o.op = .slice T x (some y) none none) (hx : ev env x = some (.slice A n c)) (hy : ev env y = some (.int k q)) (hT : C.P.underlying T = some (.slice E)) {sz : Nat} (hs : (C.P.info? E).map (·.size) = some sz) (hb : h ≤ n) (hn : n - h = n') : Free C o env m (.slice (cutA A c h sz) n' (c - h)) := by
  subst hn; exact fr_slice_l h hq ho hx hy hT hs hb
theorem Reads.dropL {α : Type} {f : α → List Value} {sz c : Nat} {A : Option Addr} {l : List α} (h : Reads C m A (l.flatMap f)) (hf : ∀ x, (f x).length = sz) (hc : l.length ≤ c) (k : Nat) : Reads C m (cutA A c k sz) ((l.drop k).flatMap f) := by
  unfold cutA
  split
  · rw [List.drop_of_length_le (by omega)]
    unfold Reads
    intro w hw j u hj; simp at hj
  · have h2 : (l.drop k).flatMap f = (l.flatMap f).drop (k * sz) := by
      rcases Nat.lt_or_ge k l.length with h3 | h3
      · have h4 : ((l.take k).flatMap f).length = k * sz := by rw [flat_len hf, List.length_take]; congr 1; omega
        have h5 : l.flatMap f = (l.take k).flatMap f ++ (l.drop k).flatMap f := by rw [← List.flatMap_append, List.take_append_drop]
        rw [h5, ← h4, List.drop_left]
      · rw [List.drop_of_length_le h3, List.drop_of_length_le (by rw [flat_len hf]; exact Nat.mul_le_mul_right _ h3)]; rfl
    rw [h2]; exact h.seg _
theorem Reads.zeros {α : Type} {f : α → List Value} {sz i n c : Nat} {E : TypeId} {A : Option Addr} {z : α} {zs : List Value} (hi : m[i]? = some (Ent.row (.slice A n c) E sz n (zerosL zs n))) (hz : zs = f z) (hf : ∀ x, (f x).length = sz) (hp : Nat.blt 0 sz = true) : Reads C m A ((List.replicate n z).flatMap f) := by
  subst hz
  rw [← zeros_flat hf z (by simpa using hp)]
  exact Reads.row hi
theorem Ex.cutM {id : Nat} {l : List Oper} {y : Code} (kn kp : Env) (hK : Agree kp env) (hm : C.P.follows .mixedOrders = true) (h1 : ExD C l m l.length [] env m (fun env' m' => Agree (kn ++ kp) env' ∧ ∃ t is, pickT m' t is = some m ∧ freshT t is = true)) (h2 : Ex C y (kn ++ kp) m Q) (hrd : regOk C.rd l = true := by rfl) : Ex C (.seq (.region id l.toArray true) y) env m Q := by
  refine Ex.seq (Ex.mono (Ex.draw (Q := Sq (fun env' m' => Agree (kn ++ kp) env' ∧ ∃ t is, pickT m' t is = some m ∧ freshT t is = true) (fun _ _ _ => False)) m hm h1 hrd) ?_)
  rintro e env' m' hq
  cases e with
  | normal =>
    obtain ⟨ha, t, is, hp, hf⟩ := hq
    exact fun a w hr hh => h2 a w (hr.agree ha) (hh.pickT hp hf)
  | exit k => exact hq.elim
  | goto k => exact hq.elim
  | ret => exact hq.elim
  | panic k => exact hq.elim
  | outgrown => exact hq.elim
end Go.Sx

/- Rows: cleared from a place on, cut; read through a slice of them. -/
set_option linter.unusedVariables false
set_option linter.unusedSimpArgs false
namespace Go.Sx
open Go Go.RowKit
variable {C : Cx} {env : Env} {m : List Ent} {o : Oper} {K : Env → List Ent → Prop}
theorem Op1.of_call0 {o : Oper} {K} (hd : o.dst = none)
    (h : ∀ a w, Rep C.n C.ds env a → Holds C.base C.w0 m w → ∃ v w' m', (execOp a.eval o).run C.P w = .ok (.value v) w' ∧ Holds C.base C.w0 m' w' ∧ K env m') : Op1 C o env m K := by
  intro a w hr hh
  obtain ⟨v, w', m', hrun, hh', hk⟩ := h a w hr hh
  unfold Oper.wp
  rw [hrun]
  exact ⟨env, m', by rw [hd]; exact hr, hh', hk⟩
theorem zero_one {cells : Array Value} {zs : List Value} (hc : cells = List.toArray zs) (hone : zs.all (·.oneCell') = true) (n : Nat) : ∀ v, v ∈ (Builtin.zeroCells cells n).toList → v.oneCell' = true := by
  subst hc
  intro v hv
  have hv2 : v ∈ Builtin.zeroCells zs.toArray n := by simpa using hv
  unfold Builtin.zeroCells at hv2
  rw [Array.mem_map] at hv2
  obtain ⟨i, hi, rfl⟩ := hv2
  have hi2 : i < n * zs.length := by simpa using hi
  have hpos : 0 < zs.length := by
    rcases Nat.eq_zero_or_pos zs.length with h | h
    · rw [h, Nat.mul_zero] at hi2; omega
    · exact h
  have hlt : i % zs.length < zs.length := Nat.mod_lt _ hpos
  have e : zs.toArray[i % zs.toArray.size]! = zs[i % zs.length] := by
    rw [getElem!_pos zs.toArray _ (by simpa using hlt)]; simp
  rw [e]
  exact List.all_eq_true.1 hone _ (List.getElem_mem hlt)
theorem op_clearRow {i k n' c' n c sz : Nat} {x T E z zs xs} {A : Option Addr} (ho : o.op = .call { callee := .builtin .clear, args := #[x], argTypes := #[T] }) (hx : ev env x = some (.slice (cutA A c k sz) n' c')) (hT : C.P.underlying T = some (.slice E)) (hz : (C.P.info? E).bind (·.zero) = some z) (hc : z.cells = List.toArray zs) (hone : zs.all (·.oneCell') = true) (hl : zs.length = sz)
    (hi : m[i]? = some (.row (.slice A n c) E sz n xs)) (hp : 0 < n') (hk : k + n' = n) (hkc : k < c) (hd : o.dst = none)
    (h : ∀ new : List Value, K env (m.set i (.row (.slice A n c) E sz n (put xs (k * sz) new)))) : Op1 C o env m K := by
  refine Op1.of_call0 hd fun a w hr hh => ?_
  have hr0 := hh.all _ (List.mem_of_getElem? hi)
  rcases hr0.2 with ⟨_, hn0⟩ | ⟨g, cap, cur, hv, hb, hg, hnc, hcm, hcs, ht⟩
  · omega
  · simp only [Value.slice.injEq] at hv
    obtain ⟨rfl, -, rfl⟩ := hv
    have hxl : xs.length = n * sz := hr0.1
    have hnle : n * sz ≤ c * sz := Nat.mul_le_mul_right _ hnc
    generalize hnew : (Builtin.zeroCells z.cells n').toList = new
    have hnl : new.length = n' * sz := by rw [← hnew, Array.length_toList, size_zeroCells, hc, List.size_toArray, hl]
    have hno : ∀ v, v ∈ new → v.oneCell' = true := by rw [← hnew]; exact zero_one hc hone n'
    have hkn : k * sz + new.length = n * sz := by rw [hnl, ← Nat.add_mul, hk]
    have h1 := run_storeCells_at C.P g (k * sz) E new 0 cur w hg (by omega) hno
    simp only [Nat.add_zero] at h1
    have hA : cutA (some ⟨g, 0, none⟩) c k sz = some ⟨g, k * sz, none⟩ := by
      unfold cutA offA
      rw [if_neg (by omega)]
      simp [add_at]
    rw [hA] at hx
    obtain ⟨n'', rfl⟩ : ∃ n'', n' = n'' + 1 := ⟨n' - 1, by omega⟩
    have hzv : (zeroValue E).run C.P w = .ok z w := by
      cases hq : C.P.info? E with
      | none => simp [hq] at hz
      | some inf =>
        simp only [hq, Option.bind_some] at hz
        simp [zeroValue, typeInfo, hq, hz]
    refine ⟨.tuple #[], w.setRow g (cur.toList.take (k * sz) ++ new ++ cur.toList.drop (k * sz + new.length)).toArray, _, ?_, turn_row hh hi rfl hg rfl ?_, h new⟩
    · simp [execOp, ho, resolve, invoke, builtin, hr.ev hx, Builtin.clear_, run_underlying hT, hzv, hnew, h1]
    · have hlen : (put xs (k * sz) new).length = n * sz := by simp only [put, List.length_append, List.length_take, List.length_drop]; omega
      refine ⟨hlen, .inr ⟨g, c, _, rfl, hb, setRow_heap w g cur _ E _ hg, hnc, hcm, ?_, ?_⟩⟩
      · simp only [List.size_toArray, List.length_append, List.length_take, List.length_drop, Array.length_toList]; omega
      · subst ht
        exact take_put (by omega) (by simp; omega)
theorem row_cap {i n c sz : Nat} {A : Option Addr} {E xs} (hi : m[i]? = some (.row (.slice A n c) E sz n xs)) : ∀ w, Holds C.base C.w0 m w → n ≤ c := fun w hw => by
  have h := hw.all _ (List.mem_of_getElem? hi)
  rcases h.2 with ⟨hv, hn⟩ | ⟨g, cap, cur, hv, _, _, hnc, _⟩
  · omega
  · simp only [Value.slice.injEq] at hv
    obtain ⟨_, _, rfl⟩ := hv
    exact hnc
theorem Holds.cutRow {base w0 w} {A : Option Addr} {n c k sz : Nat} {E xs ys} (hk : k ≤ n) (h0 : 0 < k) (hy : xs.take (k * sz) = ys) (h : Holds base w0 (.row (.slice A n c) E sz n xs :: m) w) : Holds base w0 (.row (.slice A k c) E sz k ys :: m) w := by
  subst hy
  have hr := h.all _ (List.mem_cons_self ..)
  obtain ⟨ha1, ha2⟩ := List.pairwise_cons.1 h.apart
  have hle : k * sz ≤ n * sz := Nat.mul_le_mul_right _ hk
  rcases hr.2 with ⟨hv, hn⟩ | ⟨g, cap, cur, hv, hb, hg, hnc, hcm, hcs, ht⟩
  · omega
  · simp only [Value.slice.injEq] at hv
    obtain ⟨rfl, -, rfl⟩ := hv
    refine ⟨h.below, h.le, fun e he => ?_, List.pairwise_cons.2 ⟨fun f hf b hb2 => ha1 f hf b hb2, ha2⟩, h.others⟩
    rcases List.mem_cons.1 he with rfl | he
    · refine ⟨?_, .inr ⟨g, c, cur, rfl, hb, hg, by omega, hcm, hcs, ?_⟩⟩
      · have := hr.1; rw [List.length_take]; omega
      · rw [← ht, List.take_take, Nat.min_eq_left hle]
    · exact h.all e (by simp [he])
theorem cutRowH {F : List Ent} {A : Option Addr} {n c k sz : Nat} {E xs ys} (hk : k ≤ n) (h0 : 0 < k) (hy : xs.take (k * sz) = ys) (hp : m.Perm (.row (.slice A n c) E sz n xs :: F)) : ∀ w, Holds C.base C.w0 m w → Holds C.base C.w0 (.row (.slice A k c) E sz k ys :: F) w :=
  fun _ h => Holds.cutRow hk h0 hy (h.perm hp)
theorem fr_indexAddrX {α : Type} {f : α → List Value} {sz : Nat} {xs : List α} {A : Option Addr} {S x y E n c k i} (H : Reads C m A (xs.flatMap f)) (hf : ∀ x, (f x).length = sz) (hl : 0 < xs.length) (ho : o.op = .indexAddr S x y) (hx : ev env x = some (.slice A n c)) (hy : ev env y = some (.int k i)) (hS : C.P.underlying S = some (.slice E)) (hs : (C.P.info? E).map (·.size) = some sz) (hp : Nat.blt 0 sz = true) (hi : 0 ≤ i ∧ i < n) : Free C o env m (.pointer (offA A (i.toNat * sz))) := by
  have key := fun hA => fr_indexAddr (C := C) (m := m) (o := o) ho hx hy hS hs hA hi
  unfold Free at key ⊢
  exact fun a w hr hw => key (H.some_ hf hp hl hw) a w hr hw
theorem segD {α : Type} {f : α → List Value} {sz : Nat} {xs : List α} {A : Option Addr} {i : Int} {r : α} (j : Nat) (H : Reads C m A (xs.flatMap f)) (hf : ∀ x, (f x).length = sz) (hp : Nat.blt 0 sz = true) (d : α) (hi : i = (j : Int)) (hj : j < xs.length) (he : xs.getD j d = r) : SegO C m (offA A (i.toNat * sz)) (f r) := by
  subst he; exact segJ j H hf hp d hi hj
end Go.Sx

/- Neighbours that are alike, taken out in place. -/
set_option linter.unusedVariables false
set_option linter.unusedSimpArgs false
namespace Go.W
open Go Go.Sx
theorem cpt_c (x y : VP) (l : List VP) : cpt (x :: y :: l) = if likeP x y = true then cpt (y :: l) else x :: cpt (y :: l) := by rw [cpt]
theorem cpt_1 (x : VP) : cpt [x] = [x] := rfl
theorem cpt_snoc2 (x y : VP) : ∀ (l : List VP), cpt (l ++ [x, y]) = if likeP x y = true then cpt (l ++ [x]) else cpt (l ++ [x]) ++ [y]
  | [] => by
    show cpt [x, y] = if likeP x y = true then cpt [x] else cpt [x] ++ [y]
    rw [cpt_c, cpt_1, cpt_1]
    split
    · next h => obtain rfl := vp_ext h; rfl
    · rfl
  | [a] => by
    have ih := cpt_snoc2 x y []
    simp only [List.nil_append] at ih
    show cpt (a :: x :: [y]) = if likeP x y = true then cpt (a :: x :: []) else cpt (a :: x :: []) ++ [y]
    rw [cpt_c a x [y], cpt_c a x [], ih]
    split <;> split <;> rfl
  | a :: b :: l => by
    have ih := cpt_snoc2 x y (b :: l)
    simp only [List.cons_append] at ih ⊢
    rw [cpt_c, cpt_c, ih]
    split <;> split <;> rfl
theorem takeP {l : List VP} {m : Nat} (h : m < l.length) : l.take (m + 1) = l.take m ++ [l.getD m zP] := by
  rw [List.take_succ_eq_append_getElem h]; simp [List.getD, h]
theorem cpt_take {l : List VP} {m : Nat} (h0 : 1 ≤ m) (h : m < l.length) : cpt (l.take (m + 1)) = if likeP (l.getD (m - 1) zP) (l.getD m zP) = true then cpt (l.take m) else cpt (l.take m) ++ [l.getD m zP] := by
  obtain ⟨m', rfl⟩ : ∃ m', m = m' + 1 := ⟨m - 1, by omega⟩
  rw [takeP h, takeP (show m' < l.length by omega), List.append_assoc, Nat.add_sub_cancel]
  exact cpt_snoc2 _ _ _
theorem cpt_le : ∀ (l : List VP), (cpt l).length ≤ l.length
  | [] => Nat.le_refl _
  | [x] => Nat.le_refl _
  | x :: y :: l => by
    have := cpt_le (y :: l)
    rw [cpt]; simp only [List.length_cons] at this ⊢
    split
    · omega
    · simp only [List.length_cons]; omega
def cst (l : List VP) (m : Nat) : List VP := cpt (l.take m) ++ l.drop (cpt (l.take m)).length
section
variable {l : List VP} {m : Nat}
theorem cptT_le (h : m ≤ l.length) : (cpt (l.take m)).length ≤ m := by have := cpt_le (l.take m); rw [List.length_take] at this; omega
theorem cst_len (h : m ≤ l.length) : (cst l m).length = l.length := by
  have := cptT_le h
  unfold cst; rw [List.length_append, List.length_drop]; omega
theorem cst_at {q : Nat} (hq : (cpt (l.take m)).length ≤ q) : (cst l m).getD q zP = l.getD q zP := by
  unfold cst
  simp only [List.getD]
  rw [List.getElem?_append_right hq, List.getElem?_drop, show (cpt (l.take m)).length + (q - (cpt (l.take m)).length) = q by omega]
theorem ccdrop {k j q : Nat} (hq : (cpt (l.take m)).length ≤ q ∧ q = k + j) : ((cst l m).drop k).getD j zP = l.getD q zP := by
  obtain ⟨h1, rfl⟩ := hq
  rw [← cst_at h1]
  simp only [List.getD]; rw [List.getElem?_drop]
theorem cst_same (h : cpt (l.take m) = l.take m) (hm : m ≤ l.length) : cst l m = l := by
  unfold cst; rw [h, List.length_take, Nat.min_eq_left hm, List.take_append_drop]
theorem cst_n (h0 : 1 ≤ m) (h : m < l.length) (hl : likeP (l.getD (m - 1) zP) (l.getD m zP) = true) : cst l m = cst l (m + 1) ∧ (cpt (l.take m)).length = (cpt (l.take (m + 1))).length := by
  unfold cst; rw [cpt_take h0 h, if_pos hl]; exact ⟨rfl, rfl⟩
theorem cst_y (h0 : 1 ≤ m) (h : m < l.length) (hl : likeP (l.getD (m - 1) zP) (l.getD m zP) = false) : (cst l m).set (cpt (l.take m)).length (l.getD m zP) = cst l (m + 1) ∧ (cpt (l.take (m + 1))).length = (cpt (l.take m)).length + 1 := by
  have h1 := cptT_le (l := l) (m := m) (by omega)
  have e : cpt (l.take (m + 1)) = cpt (l.take m) ++ [l.getD m zP] := by rw [cpt_take h0 h, if_neg (by rw [hl]; decide)]
  unfold cst
  rw [e, List.length_append, List.length_singleton]
  refine ⟨?_, rfl⟩
  rw [List.set_append_right _ _ (Nat.le_refl _), Nat.sub_self, List.drop_eq_getElem_cons (show (cpt (l.take m)).length < l.length by omega), List.set_cons_zero, List.append_assoc]; rfl
theorem cst_put {q : Nat} {v : List Value} {k : Nat} (h0 : 1 ≤ m) (h : m < l.length) (hl : likeP (l.getD (m - 1) zP) (l.getD m zP) = false) (hk : k = (cpt (l.take m)).length) (hq : q = k * 2) (hv : v = encP (l.getD m zP)) : put ((cst l m).flatMap encP) q v = (cst l (m + 1)).flatMap encP := by
  have h1 := cptT_le (l := l) (m := m) (by omega)
  subst hk hq hv
  rw [flat_put encP_len _ _ _ (by rw [cst_len (by omega)]; omega), (cst_y h0 h hl).1]
theorem cpt_step (h0 : 1 ≤ m) (h : m < l.length) (hc : cpt (l.take m) = l.take m) (hl : likeP (l.getD (m - 1) zP) (l.getD m zP) = false) : cpt (l.take (m + 1)) = l.take (m + 1) := by
  rw [cpt_take h0 h, if_neg (by rw [hl]; decide), hc, takeP h]
theorem cpt_one (h : 1 ≤ l.length) : cpt (l.take 1) = l.take 1 := by
  cases l with
  | nil => simp at h
  | cons x l => rfl
theorem cpt_short (h : l.length < 2) : cpt l = l := by
  match l, h with
  | [], _ => rfl
  | [x], _ => rfl
theorem cpt_pos (h : 1 ≤ l.length) : 1 ≤ (cpt l).length := by
  match l, h with
  | x :: l, _ =>
    obtain ⟨z, m, _, hc⟩ := cpt_head x l
    rw [hc]; simp
theorem like_sym (x y : VP) : likeP x y = likeP y x := by
  unfold likeP; exact decide_eq_decide.2 ⟨fun h => ⟨h.1.symm, h.2.symm⟩, fun h => ⟨h.1.symm, h.2.symm⟩⟩
theorem cst_cut {new : List Value} {k n : Nat} (hm : m = l.length) (hk : k = (cpt l).length) (hn : n = k * 2) : (put ((cst l m).flatMap encP) n new).take n = (cpt l).flatMap encP := by
  subst hm hk hn
  have e : l.take l.length = l := List.take_length
  have h1 : ((cpt l).flatMap encP).length = (cpt l).length * 2 := by rw [flat_len encP_len]
  unfold cst
  rw [e, List.flatMap_append, put, List.take_append_of_le_length (by rw [List.length_append, List.length_take, List.length_append, h1]; omega), List.take_append_of_le_length (by rw [List.length_take, List.length_append, h1]; omega), List.take_take, Nat.min_self, ← h1, List.take_left]
end
end Go.W

/- Lists laid one behind the other. -/
set_option linter.unusedVariables false
set_option linter.unusedSimpArgs false
namespace Go.W
open Go Go.Sx
def catX {α : Type} (K : List (VX α)) (k : Nat) : List α := (K.take k).flatMap (·.xs)
section
variable {α : Type} {K : List (VX α)} {k : Nat}
theorem catX_0 : catX K 0 = [] := by simp [catX]
theorem catX_s (h : k < K.length) : catX K (k + 1) = catX K k ++ (K.getD k zX).xs := by
  unfold catX
  rw [List.take_succ_eq_append_getElem h, List.flatMap_append]
  simp [List.getD, h]
theorem catX_sl (h : k < K.length) : (catX K (k + 1)).length = (catX K k).length + (K.getD k zX).xs.length := by rw [catX_s h, List.length_append]
theorem catX_mono (h : k ≤ K.length) : (catX K k).length ≤ (catX K K.length).length := by
  obtain ⟨j, hj⟩ : ∃ j, K.length = k + j := ⟨K.length - k, by omega⟩
  have key : ∀ j, k + j ≤ K.length → (catX K k).length ≤ (catX K (k + j)).length := by
    intro j
    induction j with
    | zero => intro _; exact Nat.le_refl _
    | succ j ih =>
      intro h2
      have := ih (by omega)
      rw [show k + (j + 1) = k + j + 1 by omega, catX_sl (by omega)]; omega
  have := key j (by omega)
  rwa [← hj] at this
theorem catX_2 {a b : VX α} : catX [a, b] [a, b].length = a.xs ++ b.xs := by simp [catX]
end
end Go.W

/- Merged totals: what the program's loop sees. -/
set_option linter.unusedVariables false
set_option linter.unusedSimpArgs false
namespace Go.W
open Go Go.Sx Go.RowKit
theorem reads2 {α : Type} {w : World} {f : α → List Value} {a b : VX α} (h0 : Rd w a.A (a.xs.flatMap f)) (h1 : Rd w b.A (b.xs.flatMap f)) : ∀ k, k < [a, b].length → Rd w ([a, b].getD k zX).A (([a, b].getD k zX).xs.flatMap f) := fun k hk => by
  match k, hk with
  | 0, _ => exact h0
  | 1, _ => exact h1
theorem nil2 {α : Type} {a b : VX α} (h0 : a.A = none → a.xs.length = 0 ∧ a.c = 0) (h1 : b.A = none → b.xs.length = 0 ∧ b.c = 0) : ∀ k, k < [a, b].length → ([a, b].getD k zX).A = none → ([a, b].getD k zX).xs.length = 0 ∧ ([a, b].getD k zX).c = 0 := fun k hk e => by
  match k, hk with
  | 0, _ => exact h0 e
  | 1, _ => exact h1 e
theorem none_len {base : Nat} {w : World} {A : Option Addr} {l : List VP} (h : RdB base w A (l.flatMap encP)) (e : A = none) : l.length = 0 := by
  cases l with
  | nil => rfl
  | cons x t =>
    obtain ⟨ad, h1, _⟩ := h 0 (.int .i64 x.a) rfl
    rw [e] at h1; cases h1
theorem row_addr {C : Cx} {m : List Ent} {i n c sz : Nat} {A : Option Addr} {E xs} (hi : m[i]? = some (Ent.row (.slice A n c) E sz n xs)) (hn : 0 < n) : ∀ w, Holds C.base C.w0 m w → ∃ a, A = some a := fun w hw => Option.isSome_iff_exists.1 ((row_some hi w hw).2.2.2 hn)
/-- The code that the program's loop has come to. -/
def codeK (l : List VP) (k : Nat) : Int := if (List.range (k - 1)).all (fun i => decide (¬ (l.getD (i + 1) zP).b < (l.getD i zP).b)) = true then 0 else 4
theorem codeK_1 (l : List VP) : codeK l 1 = 0 := rfl
theorem codeK_s {l : List VP} {k : Nat} (hk : 1 ≤ k) : codeK l (k + 1) = if (l.getD k zP).b < (l.getD (k - 1) zP).b then 4 else codeK l k := by
  obtain ⟨k', rfl⟩ : ∃ k', k = k' + 1 := ⟨k - 1, by omega⟩
  unfold codeK
  rw [Nat.add_sub_cancel, Nat.add_sub_cancel, List.range_succ, List.all_append, List.all_cons, List.all_nil, Bool.and_true]
  by_cases h : (l.getD (k' + 1) zP).b < (l.getD k' zP).b
  · rw [if_pos h, decide_eq_false (fun h2 => h2 h), Bool.and_false, if_neg Bool.false_ne_true]
  · rw [if_neg h, decide_eq_true h, Bool.and_true]
theorem codeK_y {l : List VP} {k : Nat} (hk : 1 ≤ k) (h : (l.getD k zP).b < (l.getD (k - 1) zP).b) : codeK l (k + 1) = 4 := by rw [codeK_s hk, if_pos h]
theorem codeK_n {l : List VP} {k : Nat} (hk : 1 ≤ k) (h : ¬ (l.getD k zP).b < (l.getD (k - 1) zP).b) : codeK l (k + 1) = codeK l k := by rw [codeK_s hk, if_neg h]
theorem codeK_end {l : List VP} {k : Nat} (hk : l.length ≤ k) (h1 : k = 1 ∨ k = l.length) : codeK l k = if upB l = true then 0 else 4 := by
  unfold codeK upB
  rcases h1 with rfl | rfl
  · have : l.length - 1 = 0 := by omega
    rw [this]
  · rfl
theorem codeK_bd (l : List VP) (k : Nat) : codeK l k = 0 ∨ codeK l k = 4 := by unfold codeK; split <;> simp
theorem mer_z : merV [] [] = ([], 0) := by
  have h1 : mg [] [] = ([] : List VP) := by rw [mg]
  have h2 : cf [] [] = false := by rw [cf]
  have := mer_0 (s := []) (t := []) (by decide) h2 (by rw [h1]; rfl) (by rw [h1]; decide)
  rw [this, h1]
theorem mer_le {s t : List VP} : (merV s t).1.length ≤ 60 := by
  unfold merV
  split
  · simp
  · split
    · simp
    · split
      · simp
      · split
        · simp
        · show (mg s t).length ≤ 60; omega
end Go.W
