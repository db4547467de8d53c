/- Several texts, one behind the other. -/
import Derived.Test.YthabjnhfhmbamaaGreatDoorProg
import Derived.Lib.SlicesS
import Derived.Test.YthabjnhfhmbamaaGreatDoorXaa
import Derived.Test.YthabjnhfhmbamaaGreatDoorXab
import Derived.Test.YthabjnhfhmbamaaGreatDoorXac
import Derived.Test.YthabjnhfhmbamaaGreatDoorXba
/- What these functions of the program hand back, each proved by walking its operations. -/
set_option linter.unusedVariables false
set_option linter.unusedSimpArgs false
set_option maxRecDepth 4000
namespace Go.Proofs.YthabjnhfhmbamaaGreatDoor
open Go Go.Sx Go.RowKit Go.W Go.Proofs
attribute [local irreducible] Ex ExL ExD Op1 Free RetQ MutQ Reads CellO SegO LoadsAs
theorem e_69 : Enters Tryz.prog 69 := Enters.of Tryz.func69 rfl
theorem c_actWords  : Ret Tryz.prog 69 [] (fun w => True) (fun x : Nat => .slice (some ⟨x, 0, none⟩) 6 6) (fun x => [.row (.slice (some ⟨x, 0, none⟩) 6 6) 9 1 6 (wordsL.flatMap eSt)]) (fun x => True) := by
  refine Ret.of e_69 Tryz.func69 rfl Tryz.ntmps69 rfl rfl (fun w hpre => ?_)
  refine Ex.regSeq (ExL.pures 1 rfl ?_)
  refine ExL.nil ?_
  refine Ex.regSeq (ExL.pures 0 rfl ?_)
  refine ExL.op rfl (op_buildSlice (sz := 1) rfl rfl rfl rfl rfl rfl rfl rfl (by decide) rfl rfl rfl (fun r1 => ?_))
  refine ExL.pures 1 rfl ?_
  refine ExL.nil ?_
  refine Ex.ret ?_
  refine RetQ.mk r1 rfl (.tmp rfl .nil) (rfl) [0] (rfl) rfl (trivial)
theorem e_36 : Enters Tryz.prog 36 := Enters.of Tryz.func36 rfl
theorem c_actText (a : VAct) (hv : validAct a = true) : Ret Tryz.prog 36 [.agg (encA a).toArray] (fun w => TabO Tryz.prog w) (fun x : Unit => sv (actT a)) (fun x => []) (fun x => True) := by
  refine Ret.of e_36 Tryz.func36 rfl Tryz.ntmps36 rfl rfl (fun w hpre => ?_)
  have htab := hpre
  have hvd := of_decide_eq_true hv
  have hil := itoa_le (n := a.n) (by omega)
  have hwl := actW_le a
  have hw6 : wordsL.length = 6 := rfl
  refine Ex.regSeq (ExL.pures 0 rfl ?_)
  refine ExL.op rfl (op_box rfl rfl rfl rfl rfl (fun b1 => ?_))
  refine ExL.pures 1 rfl ?_
  refine ExL.nil ?_
  refine Ex.drawSeqM rfl ?_
  refine ExD.take (i := 1) rfl (by kernel_rfl) (pureVal_ok rfl) ((List.Sublist.refl _)) rfl rfl rfl ?_
  refine ExD.take (i := 2) rfl (by kernel_rfl) (fr_load rfl rfl rfl rfl (CellO.blk (i := 0) rfl rfl)) ((List.Sublist.refl _)) rfl rfl rfl ?_
  refine ExD.op (i := 0) rfl (by kernel_rfl) rfl (op_ret rfl rfl rfl (c_actWords) (fun _ _ => trivial) rfl rfl (fun x2 hx2 => ⟨(List.Sublist.cons _ (List.Sublist.refl _)), ?_⟩))
  refine ExD.take (i := 3) rfl (by kernel_rfl) (fr_indexAddr (sz := 1) rfl rfl rfl rfl rfl rfl (by omega)) ((List.Sublist.cons _ (List.Sublist.refl _))) rfl rfl rfl ?_
  refine ExD.op (i := 4) rfl (by kernel_rfl) rfl (Op1.of_free (fr_load rfl rfl rfl rfl (by first | exact cellN (Reads.row (i := 0) rfl) eSt_len ([] : List UInt8) 0 rfl (by omega) rfl | exact cellF (Reads.row (i := 0) rfl) eSt_len ([] : List UInt8) 0 rfl (by omega) rfl)) rfl rfl ⟨(List.Sublist.cons _ (List.Sublist.refl _)), ?_⟩)
  refine ExD.take (i := 5) rfl (by kernel_rfl) (pureVal_ok rfl) ((List.Sublist.cons _ (List.Sublist.refl _))) rfl rfl rfl ?_
  refine ExD.done (by kernel_rfl) ?_
  refine Ex.seq ?_
  refine Ex.regSeq (ExL.pures 1 rfl ?_)
  refine ExL.free (fr_load rfl rfl rfl rfl (CellO.blk (i := 1) rfl rfl)) rfl rfl rfl ?_
  refine ExL.leq rfl rfl rfl rfl rfl rfl (fun h3 => ?_) (fun h3 => ?_)
  · refine ExL.nil ?_
    refine Ex.cond_t rfl ?_
    refine Ex.region (ExL.pures 2 rfl ?_)
    refine ExL.free (fr_load rfl rfl rfl rfl (CellO.blk (i := 1) rfl rfl)) rfl rfl rfl ?_
    refine ExL.op rfl (op_ret rfl rfl rfl (c_decimal a.n (by omega)) (fun w hw => TabO.keep htab hw) rfl rfl (fun x4 hx4 => ?_))
    refine ExL.free (fr_addS (l := [32]) (r := Lib.itoa a.n) rfl rfl rfl (by first | omega | (simp only [List.length_append, List.length_cons, List.length_nil]; omega))) rfl rfl rfl ?_
    refine ExL.free (fr_addS (l := (actW a)) (r := ([32] ++ Lib.itoa a.n)) rfl rfl rfl (by first | omega | (simp only [List.length_append, List.length_cons, List.length_nil]; omega))) rfl rfl rfl ?_
    refine ExL.pures 1 rfl ?_
    refine ExL.nil ?_
    refine Ex.regSeq (ExL.pures 2 rfl ?_)
    refine ExL.nil ?_
    refine Ex.ret ?_
    refine RetQ.mk () rfl (.tmp rfl .nil) (tS (by first | exact (actT_3 (by omega)).symm | exact (actT_4 (by omega)).symm)) [] (rfl) rfl (trivial)
  · refine ExL.nil ?_
    refine Ex.cond_f rfl ?_
    refine Ex.skip ?_
    refine Ex.regSeq (ExL.pures 2 rfl ?_)
    refine ExL.nil ?_
    refine Ex.ret ?_
    refine RetQ.mk () rfl (.tmp rfl .nil) (tS (by first | exact (actT_3 (by omega)).symm | exact (actT_4 (by omega)).symm)) [] (rfl) rfl (trivial)
end Go.Proofs.YthabjnhfhmbamaaGreatDoor

/- Acts read from their texts: an act is read iff the line is its text. -/
set_option linter.unusedVariables false
set_option linter.unusedSimpArgs false
namespace Go.W
open Go Go.Sx
/-- No act has this line. -/
def NoAct (t : List UInt8) : Prop := ∀ a, validAct a = true → actT a ≠ t
theorem va_bd {a : VAct} (h : validAct a = true) : (1 ≤ a.kind ∧ a.kind ≤ 5) ∧ (a.kind ≤ 3 → -1 ≤ a.n ∧ a.n ≤ 1000000000000) ∧ (3 < a.kind → a.n = 0) := by
  unfold validAct at h
  have h := of_decide_eq_true h
  omega
theorem itoa_neg_no {n : Int} {c : UInt8} (hn : n < 0) (hc : c.toNat < 45) : c ∉ Lib.itoa n := by
  rw [itoa_neg hn, List.mem_cons, not_or]
  refine ⟨fun e => ?_, itoa_no (by omega) (by omega)⟩
  subst e
  exact absurd hc (by decide)
theorem itoa_no' {n : Int} {c : UInt8} (hc : c.toNat < 45) : c ∉ Lib.itoa n := by
  by_cases h : n < 0
  · exact itoa_neg_no h hc
  · exact itoa_no (by omega) (by omega)
theorem words_no (k : Nat) (c : UInt8) (hc : c.toNat < 45) : c ∉ wordsL.getD k [] := by
  have e : ∀ x ∈ wordsL.getD k [], 45 ≤ x.toNat := by
    rcases k with _ | _ | _ | _ | _ | _ | k <;> simp [wordsL]
  intro h
  have := e c h
  omega
theorem words_inj {j k : Nat} (hj : 1 ≤ j ∧ j < 6) (hk : k < 6) (h : wordsL.getD j [] = wordsL.getD k []) : j = k := by
  have hall : ∀ j, j < 6 → ∀ k, k < 6 → wordsL.getD j [] = wordsL.getD k [] → j = k := by decide
  exact hall j (by omega) k hk h
theorem act_parts {a : VAct} (h : validAct a = true) : splitA 32 [] (actT a) = if a.kind ≤ 3 then [actW a, Lib.itoa a.n] else [actW a] := by
  have h1 : (32 : UInt8) ∉ actW a := words_no _ _ (by decide)
  have h2 : (32 : UInt8) ∉ Lib.itoa a.n := itoa_no' (by decide)
  split
  · rename_i h3
    have e : actT a = Lib.join [actW a, Lib.itoa a.n] [32] := by rw [actT_3 h3, join_cons2, Lib.join_one]; simp
    rw [e]
    exact split_join _ (by simp) (fun y hy => by
      simp only [List.mem_cons, List.not_mem_nil, or_false] at hy
      rcases hy with rfl | rfl
      · exact h1
      · exact h2)
  · rename_i h3
    rw [actT_4 h3, splitA_last _ _ h1]; rfl
theorem act_no10 {a : VAct} : (10 : UInt8) ∉ actT a := by
  have h1 : (10 : UInt8) ∉ actW a := words_no _ _ (by decide)
  have h2 : (10 : UInt8) ∉ Lib.itoa a.n := itoa_no' (by decide)
  unfold actT
  split <;> simp [h1, h2]
theorem part0 {a : VAct} (h : validAct a = true) : (splitA 32 [] (actT a)).getD 0 [] = actW a := by
  rw [act_parts h]; split <;> rfl
theorem actT_inj {a b : VAct} (ha : validAct a = true) (hb : validAct b = true) (h : actT a = actT b) : a = b := by
  have h1 := part0 ha
  have h2 := part0 hb
  rw [h, h2] at h1
  obtain ⟨ka, na, za⟩ := va_bd ha
  obtain ⟨kb, nb, zb⟩ := va_bd hb
  have hk := words_inj (j := b.kind.toNat) (k := a.kind.toNat) (by omega) (by omega) h1
  have hk : a.kind = b.kind := by omega
  have hn : a.n = b.n := by
    by_cases h3 : a.kind ≤ 3
    · have p1 := act_parts ha
      have p2 := act_parts hb
      rw [if_pos h3, h, p2, if_pos (by omega)] at p1
      simp only [List.cons.injEq, and_true] at p1
      have := na h3
      have := nb (by omega)
      exact (itoa_inj (by omega) (by omega) p1.2).symm
    · rw [za (by omega), zb (by omega)]
  cases a; cases b
  simp only at hk hn
  rw [hk, hn]
/-! ### As the specification reads a line -/
theorem ra_none {t : List UInt8} (h : ∀ k, 1 ≤ k → k < 6 → (splitA 32 [] t).getD 0 [] ≠ wordsL.getD k []) : NoAct t := fun a ha e => by
  subst e
  obtain ⟨ka, _, _⟩ := va_bd ha
  exact h a.kind.toNat (by omega) (by omega) (part0 ha)
theorem one_of {l : List (List UInt8)} (h : l.length = 1) : l = [l.getD 0 []] := by
  cases l with
  | nil => simp at h
  | cons a r => cases r with
    | nil => rfl
    | cons b r => simp at h
theorem two_of {l : List (List UInt8)} (h : l.length = 2) : l = [l.getD 0 [], l.getD 1 []] := by
  rcases l with _ | ⟨a, _ | ⟨b, _ | ⟨c, r⟩⟩⟩
  · simp at h
  · simp at h
  · rfl
  · simp at h
theorem ra_4 {t : List UInt8} {k : Nat} (hk : 3 < k ∧ k < 6) (h0 : (splitA 32 [] t).getD 0 [] = wordsL.getD k []) (h1 : (splitA 32 [] t).length = 1) : validAct ⟨k, 0⟩ = true ∧ actT ⟨k, 0⟩ = t := by
  refine ⟨decide_eq_true (.inr (.inr ⟨by show (k : Int) = 4 ∨ (k : Int) = 5; omega, rfl⟩)), ?_⟩
  have hj := join_split 32 t []
  rw [one_of h1, Lib.join_one, h0] at hj
  rw [actT_4 (by show ¬ (k : Int) ≤ 3; omega)]
  exact hj
theorem ra_4n {t : List UInt8} {k : Nat} (hk : 3 < k ∧ k < 6) (h0 : (splitA 32 [] t).getD 0 [] = wordsL.getD k []) (h1 : (splitA 32 [] t).length ≠ 1) : NoAct t := fun a ha e => by
  subst e
  obtain ⟨ka, _, _⟩ := va_bd ha
  rw [part0 ha] at h0
  have := words_inj (j := a.kind.toNat) (k := k) (by omega) (by omega) h0
  rw [act_parts ha, if_neg (by omega)] at h1
  simp at h1
theorem ra_3n {t : List UInt8} {k : Nat} (hk : 1 ≤ k ∧ k ≤ 3) (h0 : (splitA 32 [] t).getD 0 [] = wordsL.getD k []) (h1 : (splitA 32 [] t).length ≠ 2) : NoAct t := fun a ha e => by
  subst e
  obtain ⟨ka, _, _⟩ := va_bd ha
  rw [part0 ha] at h0
  have := words_inj (j := a.kind.toNat) (k := k) (by omega) (by omega) h0
  rw [act_parts ha, if_pos (by omega)] at h1
  simp at h1
theorem ra_3 {t : List UInt8} {k : Nat} {n : Int} (hk : 1 ≤ k ∧ k ≤ 3) (h0 : (splitA 32 [] t).getD 0 [] = wordsL.getD k []) (h1 : (splitA 32 [] t).length = 2) (hn : (splitA 32 [] t).getD 1 [] = Lib.itoa n) : actT ⟨k, n⟩ = t := by
  have hj := join_split 32 t []
  rw [two_of h1, join_cons2, Lib.join_one, h0, hn] at hj
  have e : actW ⟨(k : Int), n⟩ = wordsL.getD k [] := rfl
  rw [actT_3 (by show (k : Int) ≤ 3; omega), e]
  simpa using hj
theorem ra_3f {t : List UInt8} {k : Nat} {n : Int} {b : Bool} (hk : 1 ≤ k ∧ k ≤ 3) (h0 : (splitA 32 [] t).getD 0 [] = wordsL.getD k []) (hn : ∀ z : Int, -1000000000000 ≤ z ∧ z ≤ 1000000000000 → (splitA 32 [] t).getD 1 [] = Lib.itoa z → b = true ∧ n = z) (hb : ¬ (b = true ∧ validAct ⟨k, n⟩ = true)) : NoAct t := fun a ha e => by
  subst e
  obtain ⟨ka, na, _⟩ := va_bd ha
  rw [part0 ha] at h0
  have hkk := words_inj (j := a.kind.toNat) (k := k) (by omega) (by omega) h0
  have h3 : a.kind ≤ 3 := by omega
  have h4 := na h3
  obtain ⟨h5, h6⟩ := hn a.n (by omega) (by rw [act_parts ha, if_pos h3]; rfl)
  refine hb ⟨h5, ?_⟩
  have e : (⟨(k : Int), n⟩ : VAct) = a := by
    cases a
    simp only at hkk h6 ka
    simp only [VAct.mk.injEq]
    omega
  rw [e]; exact ha
/-- A number with a sign, maybe. -/
def signR (t : List UInt8) : Int × Bool := if t.getD 0 0 = 45 then (-(numR 13 (t.drop 1)).1, (numR 13 (t.drop 1)).2 && decide (0 < (numR 13 (t.drop 1)).1)) else numR 13 t
theorem signR_t {t : List UInt8} (h : (signR t).2 = true) : t = Lib.itoa (signR t).1 := by
  unfold signR at h ⊢
  split at h
  · rename_i h0
    rw [if_pos h0]
    simp only [Bool.and_eq_true, decide_eq_true_eq] at h
    obtain ⟨h1, h2⟩ := numR_true h.1
    rw [itoa_neg (by simp only; omega), Int.neg_neg, ← h1]
    cases t with
    | nil => simp at h0
    | cons c r => simp at h0; rw [h0]; rfl
  · rename_i h0
    rw [if_neg h0]
    exact (numR_true h).1
theorem signR_itoa {z : Int} (h : -1000000000000 ≤ z ∧ z ≤ 1000000000000) : signR (Lib.itoa z) = (z, true) := by
  unfold signR
  by_cases h0 : z < 0
  · rw [itoa_neg h0, if_pos (show (45 :: Lib.itoa (-z)).getD 0 0 = 45 from rfl)]
    simp only [List.drop_succ_cons, List.drop_zero]
    rw [numR_itoa (by omega) (by omega) (by decide)]
    simp only [Int.neg_neg, Bool.true_and, Prod.mk.injEq, decide_eq_true_eq, true_and]
    omega
  · have hk := (itoa_ok _ z rfl (by omega)).1
    rw [if_neg ?_, numR_itoa (by omega) (by omega) (by decide)]
    cases hL : Lib.itoa z with
    | nil => exact absurd hL hk.1
    | cons c r =>
      have hc := hk.2.1 c (by rw [hL]; simp)
      intro e
      have e : c = 45 := by simpa using e
      subst e
      exact absurd hc.1 (by decide)
theorem signR_bd (t : List UInt8) : -10000000000000 ≤ (signR t).1 ∧ (signR t).1 ≤ 10000000000000 := by
  have h : ∀ t, 0 ≤ (numR 13 t).1 ∧ (numR 13 t).1 ≤ 10000000000000 := fun t => by
    unfold numR
    split
    · rename_i h
      have := numV_lt t h.1.2.1
      have h2 : 10 ^ t.length ≤ 10 ^ 13 := Nat.pow_le_pow_right (by decide) h.2
      have h3 : (10 : Nat) ^ 13 = 10000000000000 := by decide
      simp only
      omega
    · simp
  unfold signR
  split
  · have := h (t.drop 1); simp only; omega
  · have := h t; omega
where
  numV_lt (t : List UInt8) (hd : ∀ c ∈ t, isDig c) : numV t < 10 ^ t.length := by
    rcases Nat.eq_zero_or_pos t.length with h0 | h0
    · obtain rfl := List.eq_nil_of_length_eq_zero h0
      decide
    · exact numV_lt' t.length t rfl hd
  numV_lt' : ∀ (k : Nat) (t : List UInt8), t.length = k → (∀ c ∈ t, isDig c) → numV t < 10 ^ k
    | 0, t, hk, _ => by obtain rfl := List.eq_nil_of_length_eq_zero hk; decide
    | k + 1, t, hk, h => by
      have hne : t ≠ [] := fun e => by subst e; simp at hk
      obtain ⟨u, c, rfl⟩ : ∃ u c, t = u ++ [c] := ⟨t.dropLast, t.getLast hne, (List.dropLast_concat_getLast hne).symm⟩
      have hc : isDig c := h c (by simp)
      have hul : u.length = k := by simpa using hk
      have ih := numV_lt' k u hul (fun x hx => h x (List.mem_append_left _ hx))
      unfold isDig at hc
      rw [numV_snoc, Nat.pow_succ]
      omega
/-! ### As the program reads a line -/
theorem ra_i {t : List UInt8} {i n : Int} (hi : ∀ k : Nat, 1 ≤ k → k < 6 → (Lib.cut t [32]).1 = wordsL.getD k [] → i = k) (hn : ∀ z, I64' z → (Lib.cut t [32]).2.1 = Lib.itoa z → n = z) (h0 : (Lib.cut t [32]).2.1 = [] → n = 0) (hb : ¬ (validAct ⟨max i 0, n⟩ = true ∧ actT ⟨max i 0, n⟩ = t)) : NoAct t := fun a ha e => by
  subst e
  obtain ⟨ka, na, za⟩ := va_bd ha
  have hp := act_parts ha
  have e : (⟨max i 0, n⟩ : VAct) = a := by
    by_cases h3 : a.kind ≤ 3
    · rw [if_pos h3] at hp
      obtain ⟨c1, c2⟩ := cut_more hp
      rw [Lib.join_one] at c2
      have h4 := na h3
      have hk := hi a.kind.toNat (by omega) (by omega) c1
      have hz := hn a.n ⟨by omega, by omega⟩ c2
      cases a
      simp only at hk hz ka
      simp only [VAct.mk.injEq]
      omega
    · rw [if_neg h3] at hp
      obtain ⟨c1, c2⟩ := cut_one hp
      have hk := hi a.kind.toNat (by omega) (by omega) c1
      have hz := h0 c2
      have hz2 := za (by omega)
      cases a
      simp only at hk hz hz2 ka
      simp only [VAct.mk.injEq]
      omega
  rw [e] at hb
  exact hb ⟨ha, rfl⟩
/-! ### All the lines -/
/-- The acts of a text's first lines. -/
def ActsOf (t : List UInt8) (l : List VAct) : Prop := ∀ i, i < l.length → validAct (l.getD i zA) = true ∧ actT (l.getD i zA) = (splitA 10 [] t).getD i []
theorem ActsOf.snoc {t : List UInt8} {l : List VAct} {a : VAct} (h : ActsOf t l) (h1 : validAct a = true) (h2 : actT a = (splitA 10 [] t).getD l.length []) : ActsOf t (l ++ [a]) := fun i hi => by
  rw [List.length_append, List.length_singleton] at hi
  by_cases he : i < l.length
  · have := h i he
    simpa [List.getD, List.getElem?_append, he] using this
  · obtain rfl : i = l.length := by omega
    have e : (l ++ [a]).getD l.length zA = a := by simp [List.getD, List.getElem?_append]
    rw [e]
    exact ⟨h1, h2⟩
theorem ActsOf.nil (t : List UInt8) : ActsOf t [] := fun i hi => by simp at hi
/-- What is read of a text: the acts, and 0; or none, and 5. -/
def ActsRd (t : List UInt8) (x : List VAct × Int) : Prop := (x.2 = 0 ∧ ActsOf t x.1 ∧ (splitA 10 [] t).length = x.1.length + 1 ∧ (splitA 10 [] t).getD x.1.length [] = [] ∧ x.1.length ≤ 60) ∨ (x.2 = 5 ∧ x.1 = [] ∧ ((splitA 10 [] t).getD ((splitA 10 [] t).length - 1) [] ≠ [] ∨ 61 < (splitA 10 [] t).length ∨ ∃ i, i + 1 < (splitA 10 [] t).length ∧ NoAct ((splitA 10 [] t).getD i [])))
theorem acts_one {t : List UInt8} {x y : List VAct × Int} (hx : ActsRd t x) (hy : ActsRd t y) : x = y := by
  have key : ∀ {x y : List VAct × Int}, (x.2 = 0 ∧ ActsOf t x.1 ∧ (splitA 10 [] t).length = x.1.length + 1 ∧ (splitA 10 [] t).getD x.1.length [] = [] ∧ x.1.length ≤ 60) → ¬ (y.2 = 5 ∧ y.1 = [] ∧ ((splitA 10 [] t).getD ((splitA 10 [] t).length - 1) [] ≠ [] ∨ 61 < (splitA 10 [] t).length ∨ ∃ i, i + 1 < (splitA 10 [] t).length ∧ NoAct ((splitA 10 [] t).getD i []))) := by
    rintro x y ⟨_, h1, h2, h3, h4⟩ ⟨_, _, h5 | h5 | ⟨i, hi, h5⟩⟩
    · rw [h2, Nat.add_sub_cancel] at h5
      exact h5 h3
    · omega
    · obtain ⟨v, e⟩ := h1 i (by omega)
      exact h5 _ v e
  rcases hx with hx | hx
  · rcases hy with hy | hy
    · obtain ⟨a1, a2, a3, _⟩ := hx
      obtain ⟨b1, b2, b3, _⟩ := hy
      have hl : x.1.length = y.1.length := by omega
      refine Prod.ext (List.ext_getElem hl fun i h1 h2 => ?_) (by rw [a1, b1])
      have ha := a2 i h1
      have hb := b2 i h2
      have := actT_inj ha.1 hb.1 (ha.2.trans hb.2.symm)
      simpa [List.getD, h1, h2] using this
    · exact absurd hy (key hx)
  · rcases hy with hy | hy
    · exact absurd hx (key hy)
    · exact Prod.ext (hx.2.1.trans hy.2.1.symm) (hx.1.trans hy.1.symm)
end Go.W

/- What the readers of acts carry on. -/
set_option linter.unusedVariables false
set_option linter.unusedSimpArgs false
namespace Go.W
open Go Go.Sx
theorem mkB_inj {a b : List UInt8} (h : mkB a = mkB b) : a = b := by
  have := congrArg (fun x : ByteArray => x.data.toList) h
  simpa [mkB] using this
theorem idxS_bd (x : ByteArray) : ∀ (zs : List ByteArray) (i : Nat), Lib.idxFromS zs x i = -1 ∨ ((i : Int) ≤ Lib.idxFromS zs x i ∧ Lib.idxFromS zs x i < (i + zs.length : Nat))
  | [], i => .inl rfl
  | z :: r, i => by
    unfold Lib.idxFromS
    split
    · right; simp only [List.length_cons]; omega
    · have := idxS_bd x r (i + 1)
      simp only [List.length_cons] at this ⊢
      omega
/-- Where a word stands in the list of the acts' words. -/
def IdxW (l : List UInt8) (i : Int) : Prop := (∀ k : Nat, 1 ≤ k → k < 6 → l = wordsL.getD k [] → i = k) ∧ -1 ≤ i ∧ i ≤ 5
theorem wB_get {j : Nat} (h : j < 6) : (wordsL.map mkB).getD j ByteArray.empty = mkB (wordsL.getD j []) := by
  have h6 : wordsL.length = 6 := rfl
  rw [List.getD, List.getD, List.getElem?_map, List.getElem?_eq_getElem (by omega : j < wordsL.length)]
  rfl
theorem idxW (l : List UInt8) : IdxW l (Lib.idxOfS ((wordsL.map mkB).take 6) (mkB l)) := by
  refine ⟨fun k h1 h6 e => ?_, ?_⟩
  · subst e
    refine Lib.idxOfS_hit (wordsL.map mkB) 6 k _ h6 (by simp [wordsL]) (wB_get h6) fun j hj e => ?_
    rw [wB_get (by omega)] at e
    have := words_inj (j := k) (k := j) ⟨h1, h6⟩ (by omega) (mkB_inj e).symm
    omega
  · have := idxS_bd (mkB l) ((wordsL.map mkB).take 6) 0
    have h2 : ((wordsL.map mkB).take 6).length = 6 := rfl
    rw [h2] at this
    unfold Lib.idxOfS
    omega
/-- An act that is read iff the line is its own text. -/
def RAct (t : List UInt8) (x : VAct × Bool) : Prop := (x.2 = true → validAct x.1 = true ∧ actT x.1 = t) ∧ (x.2 = false → NoAct t)
theorem ract_f {t : List UInt8} {a : VAct} (h : NoAct t) : RAct t (a, false) := ⟨fun e => absurd e (by simp), fun _ => h⟩
theorem ract_t {t : List UInt8} {a : VAct} (h : validAct a = true) (h1 : actT a = t) : RAct t (a, true) := ⟨fun _ => ⟨h, h1⟩, fun e => absurd e (by simp)⟩
theorem ract_d {t : List UInt8} {a : VAct} {b : Bool} (h : b = true → validAct a = true ∧ actT a = t) (h1 : ¬ b = true → NoAct t) : RAct t (a, b) := ⟨h, fun e => h1 (by simp only at e; rw [e]; simp)⟩
theorem ract_i {t : List UInt8} {i : Int} {x : Int × Bool} {b : Bool} (hi : IdxW (Lib.cut t [32]).1 i) (hx : RDec (Lib.cut t [32]).2.1 x) (h : b = true → validAct ⟨max i 0, x.1⟩ = true ∧ actT ⟨max i 0, x.1⟩ = t) (h1 : validAct ⟨max i 0, x.1⟩ = true ∧ actT ⟨max i 0, x.1⟩ = t → b = true) : RAct t (⟨max i 0, x.1⟩, b) :=
  ract_d h fun hb => ra_i hi.1 (fun z hz e => (hx.2.2.1 z hz e).2) hx.2.2.2 fun h2 => hb (h1 h2)
theorem sgn_n {t : List UInt8} (h : ¬ t.getD 0 0 = 45) : signR t = numR 13 t := if_neg h
theorem sgn_e {t : List UInt8} (h : t = []) : signR t = numR 13 t := by subst h; rfl
theorem sgn_1 {t : List UInt8} (h : t.getD 0 0 = 45) (hb : (numR 13 (t.drop 1)).2 = true) (h0 : 0 < (numR 13 (t.drop 1)).1) : signR t = (-(numR 13 (t.drop 1)).1, true) := by
  unfold signR; rw [if_pos h, hb, decide_eq_true h0]; rfl
theorem sgn_2 {t : List UInt8} (h : t.getD 0 0 = 45) (hb : (numR 13 (t.drop 1)).2 = false) : signR t = (-(numR 13 (t.drop 1)).1, false) := by
  unfold signR; rw [if_pos h, hb]; rfl
theorem sgn_3 {t : List UInt8} (h : t.getD 0 0 = 45) (h0 : ¬ 0 < (numR 13 (t.drop 1)).1) : signR t = (-(numR 13 (t.drop 1)).1, false) := by
  unfold signR; rw [if_pos h, decide_eq_false h0, Bool.and_false]
theorem u8_45 {c : UInt8} (h : (c.toNat : Int) = 45) : c = 45 := UInt8.toNat_inj.1 (by show c.toNat = 45; omega)
theorem u8_45n {c : UInt8} (h : ¬ (c.toNat : Int) = 45) : ¬ c = 45 := fun e => h (by rw [e]; rfl)
theorem sgn_num {t : List UInt8} {b : Bool} {n : Int} (h : signR t = (n, b)) : ∀ z : Int, -1000000000000 ≤ z ∧ z ≤ 1000000000000 → t = Lib.itoa z → b = true ∧ n = z := fun z hz e => by
  subst e
  rw [signR_itoa hz] at h
  injection h with h1 h2
  exact ⟨h2.symm, h1.symm⟩
theorem l07_end {t : List UInt8} {k : Nat} {b : Bool} (hk : 1 ≤ k ∧ k ≤ 3) (h0 : (splitA 32 [] t).getD 0 [] = wordsL.getD k []) (h1 : (splitA 32 [] t).length = 2) (hb : b = true ↔ (signR ((splitA 32 [] t).getD 1 [])).2 = true ∧ validAct ⟨k, (signR ((splitA 32 [] t).getD 1 [])).1⟩ = true) : RAct t (⟨k, (signR ((splitA 32 [] t).getD 1 [])).1⟩, b) :=
  ract_d (fun h => ⟨(hb.1 h).2, ra_3 hk h0 h1 (signR_t (hb.1 h).1)⟩) fun h => ra_3f hk h0 (fun z hz e => sgn_num rfl z hz e) fun h2 => h (hb.2 h2)
/-- What is read of a text, once more. -/
theorem acts_bad {t : List UInt8} {k : Nat} {x : VAct × Bool} (hk : k + 1 < (splitA 10 [] t).length) (h : RAct ((splitA 10 [] t).getD k []) x) (hb : x.2 = false) : ActsRd t ([], 5) := .inr ⟨rfl, rfl, .inr (.inr ⟨k, hk, h.2 hb⟩)⟩
theorem acts_open {t : List UInt8} (h : ¬ (splitA 10 [] t).getD ((splitA 10 [] t).length - 1) [] = []) : ActsRd t ([], 5) := .inr ⟨rfl, rfl, .inl h⟩
theorem acts_60 {t : List UInt8} (h : 61 < (splitA 10 [] t).length) : ActsRd t ([], 5) := .inr ⟨rfl, rfl, .inr (.inl h)⟩
theorem acts_ok {t : List UInt8} {l : List VAct} (h : ActsOf t l) (h1 : (splitA 10 [] t).length = l.length + 1) (h2 : (splitA 10 [] t).getD ((splitA 10 [] t).length - 1) [] = []) (h3 : l.length ≤ 60) : ActsRd t (l, 0) := .inl ⟨rfl, h, h1, by rw [h1, Nat.add_sub_cancel] at h2; exact h2, h3⟩
theorem acts_len {t : List UInt8} {x : RdS VAct} (h : ActsRd t (x.l, x.code)) : x.l.length ≤ 60 := by
  rcases h with ⟨_, _, _, _, h⟩ | ⟨_, h, _⟩
  · exact h
  · have h : x.l = [] := h
    rw [h]; simp
theorem acts_two {t : List UInt8} {x y : RdS VAct} (h : ActsRd t (x.l, x.code)) (h1 : ActsRd t (y.l, y.code)) : x.l = y.l ∧ x.code = y.code := by
  have := acts_one h h1
  exact ⟨congrArg (·.1) this, congrArg (·.2) this⟩
end Go.W

/- What these functions of the program hand back, each proved by walking its operations. -/
set_option linter.unusedVariables false
set_option linter.unusedSimpArgs false
set_option maxRecDepth 4000
namespace Go.Proofs.YthabjnhfhmbamaaGreatDoor
open Go Go.Sx Go.RowKit Go.W Go.Proofs
attribute [local irreducible] Ex ExL ExD Op1 Free RetQ MutQ Reads CellO SegO LoadsAs
theorem e_68 : Enters Tryz.prog 68 := Enters.of Tryz.func68 rfl
theorem c_IndexW (l : List UInt8) (x : Nat) : Ret Tryz.prog 68 [.slice (some ⟨x, 0, none⟩) 6 6, sv l] (fun w => Rd w (some ⟨x, 0, none⟩) (wordsL.flatMap eSt)) (fun i : Int => .int .i64 i) (fun _ => []) (fun i => IdxW l i) := by
  refine ⟨e_68, fun w hr => ?_⟩
  obtain ⟨bk, o, e, hb, hcs⟩ := join_pre hr (by decide)
  cases e
  refine (Go.Proofs.Tryz.slices_Index_string x 0 6 6 (wordsL.map mkB) (mkB l) w (by decide) (by decide) (fun j hj => hcs j _ (by rw [List.getD, List.getElem?_eq_getElem hj]; rfl))).mono ?_
  rintro e w' ⟨rfl, rfl⟩
  exact ⟨_, idxW l, rfl, Below.refl _ _, by simp, List.Pairwise.nil⟩
theorem e_33 : Enters Tryz.prog 33 := Enters.of Tryz.func33 rfl
set_option maxHeartbeats 400000 in
theorem c_readAct (t : List UInt8) (hl : t.length ≤ 1048576) : Ret Tryz.prog 33 [sv t] (fun w => RdO 0 1 2 w ∧ TabO Tryz.prog w) (fun x : VAct × Bool => .tuple #[.agg (encA x.1).toArray, .bool x.2]) (fun x => []) (fun x => RAct t x) := by
  refine Ret.of e_33 Tryz.func33 rfl Tryz.ntmps33 rfl rfl (fun w hpre => ?_)
  have hrd := hpre.1
  have htab := hpre.2
  have hcl := cut_le t 32
  have hcl1 := hcl.1
  have hcl2 := hcl.2
  have hm0 : maxLen = 9223372036854775807 := rfl
  refine Ex.regSeq (ExL.pures 0 rfl ?_)
  refine ExL.op rfl (op_alloc rfl rfl rfl rfl rfl (fun b1 => ?_))
  refine ExL.pures 1 rfl ?_
  refine ExL.nil ?_
  refine Ex.regSeq (ExL.pures 1 rfl ?_)
  refine ExL.op rfl (op_ret rfl rfl rfl (c_Cut t 32 (by omega)) (fun w hw => RdO.keep hrd hw) rfl rfl (fun x2 hx2 => ?_))
  refine ExL.pures 7 rfl ?_
  refine ExL.nil ?_
  refine Ex.regSeq (ExL.pures 1 rfl ?_)
  refine ExL.op rfl (op_ret rfl rfl rfl (c_readDecimal (Lib.cut t [32]).2.1 (by omega)) (fun w hw => ⟨RdO.keep hrd hw, TabO.keep htab hw⟩) rfl rfl (fun x3 hx3 => ?_))
  have hbx3 : -9223372036854775808 ≤ x3.1 ∧ x3.1 ≤ 9223372036854775807 := hx3.1
  refine ExL.pures 5 rfl ?_
  refine ExL.nil ?_
  refine Ex.regSeq (ExL.pures 0 rfl ?_)
  refine ExL.op rfl (op_ret rfl rfl rfl (c_actWords) (fun _ _ => trivial) rfl rfl (fun x4 hx4 => ?_))
  refine ExL.pures 1 rfl ?_
  refine ExL.op rfl (op_ret rfl rfl rfl (c_IndexW (Lib.cut t [32]).1 _) (Reads.get (Reads.row (i := 0) rfl)) rfl rfl (fun x5 hx5 => ?_))
  have hwx5 := hx5.2
  refine ExL.free (fr_max rfl rfl rfl) rfl rfl rfl ?_
  refine ExL.free (by first | exact fr_conv_i8 rfl rfl rfl rfl (by omega) | exact fr_conv rfl rfl rfl rfl) rfl rfl rfl ?_
  refine ExL.pures 1 rfl ?_
  refine ExL.free (fr_build rfl rfl rfl rfl) rfl rfl rfl ?_
  refine ExL.op rfl (op_alloc rfl rfl rfl rfl rfl (fun b6 => ?_))
  refine ExL.op rfl (op_storeC (i := 0) rfl rfl rfl rfl rfl rfl rfl rfl rfl rfl ?_)
  refine ExL.nil ?_
  refine Ex.drawSeqI [0, 1] rfl rfl ?_
  refine ExD.take (i := 0) rfl (by kernel_rfl) (fr_loadN rfl rfl rfl rfl rfl (SegO.whole (i := 0) rfl)) ((List.Sublist.cons_cons _ (List.Sublist.cons_cons _ (List.nil_sublist _)))) rfl rfl rfl ?_
  refine ExD.take (i := 1) rfl (by kernel_rfl) (fr_loadN rfl rfl rfl rfl rfl (SegO.whole (i := 0) rfl)) ((List.Sublist.cons_cons _ (List.Sublist.cons_cons _ (List.nil_sublist _)))) rfl rfl rfl ?_
  refine ExD.op (i := 2) rfl (by kernel_rfl) rfl (op_ret rfl rfl rfl (c_ValidAct (⟨max x5 0, x3.1⟩ : VAct)) (fun _ _ => trivial) rfl rfl (fun x7 hx7 => ⟨(List.Sublist.cons_cons _ (List.Sublist.cons_cons _ (List.nil_sublist _))), ?_⟩))
  refine ExD.take (i := 3) rfl (by kernel_rfl) (pureVal_ok rfl) ((List.Sublist.cons_cons _ (List.Sublist.cons_cons _ (List.nil_sublist _)))) rfl rfl rfl ?_
  refine ExD.bool (d := 31) rfl (fun hb8 => ?_) (fun hb8 => ?_)
  · refine ExD.take (i := 4) rfl (by kernel_rfl) (fr_loadN rfl rfl rfl rfl rfl (SegO.whole (i := 0) rfl)) ((List.Sublist.cons_cons _ (List.Sublist.cons_cons _ (List.nil_sublist _)))) rfl rfl rfl ?_
    refine ExD.take (i := 6) rfl (by kernel_rfl) (pureVal_ok rfl) ((List.Sublist.cons_cons _ (List.Sublist.cons_cons _ (List.nil_sublist _)))) rfl rfl rfl ?_
    refine ExD.op (i := 5) rfl (by kernel_rfl) rfl (op_ret rfl rfl rfl (c_actText (⟨max x5 0, x3.1⟩ : VAct) (by assumption)) (fun w hw => TabO.keep htab hw) rfl rfl (fun x9 hx9 => ⟨(List.Sublist.cons_cons _ (List.Sublist.cons_cons _ (List.nil_sublist _))), ?_⟩))
    refine ExD.take (i := 7) rfl (by kernel_rfl) (fr_eqlS (l := (actT (⟨max x5 0, x3.1⟩ : VAct))) (r := t) rfl rfl rfl) ((List.Sublist.cons_cons _ (List.Sublist.cons_cons _ (List.nil_sublist _)))) rfl rfl rfl ?_
    refine ExD.take (i := 8) rfl (by kernel_rfl) (pureVal_ok rfl) ((List.Sublist.cons_cons _ (List.Sublist.cons_cons _ (List.nil_sublist _)))) rfl rfl rfl ?_
    refine ExD.op (i := 9) rfl (by kernel_rfl) rfl (op_storeC (i := 2) rfl rfl rfl rfl rfl rfl rfl rfl rfl rfl ⟨(List.Sublist.cons_cons _ (List.Sublist.cons_cons _ (List.nil_sublist _))), ?_⟩)
    refine ExD.take (i := 10) rfl (by kernel_rfl) (pureVal_ok rfl) ((List.Sublist.cons_cons _ (List.Sublist.cons_cons _ (List.nil_sublist _)))) rfl rfl rfl ?_
    refine ExD.done (by kernel_rfl) ?_
    refine Ex.ret ?_
    refine RetQ.mk ((⟨max x5 0, x3.1⟩ : VAct), decide (actT (⟨max x5 0, x3.1⟩ : VAct) = t)) rfl (.cell rfl (.many rfl rfl rfl (SegO.whole (i := 2) rfl)) (.tmp rfl .nil)) (rfl) [] (rfl) rfl (ract_i hx5 hx3 (by simp_all) (by simp_all))
  · refine ExD.pass (i := 4) rfl (by kernel_rfl) ((List.Sublist.cons_cons _ (List.Sublist.cons_cons _ (List.nil_sublist _)))) rfl rfl rfl ?_
    refine ExD.pass (i := 5) rfl (by kernel_rfl) ((List.Sublist.cons_cons _ (List.Sublist.cons_cons _ (List.nil_sublist _)))) rfl rfl rfl ?_
    refine ExD.pass (i := 6) rfl (by kernel_rfl) ((List.Sublist.cons_cons _ (List.Sublist.cons_cons _ (List.nil_sublist _)))) rfl rfl rfl ?_
    refine ExD.pass (i := 7) rfl (by kernel_rfl) ((List.Sublist.cons_cons _ (List.Sublist.cons_cons _ (List.nil_sublist _)))) rfl rfl rfl ?_
    refine ExD.take (i := 8) rfl (by kernel_rfl) (pureVal_ok rfl) ((List.Sublist.cons_cons _ (List.Sublist.cons_cons _ (List.nil_sublist _)))) rfl rfl rfl ?_
    refine ExD.op (i := 9) rfl (by kernel_rfl) rfl (op_storeC (i := 2) rfl rfl rfl rfl rfl rfl rfl rfl rfl rfl ⟨(List.Sublist.cons_cons _ (List.Sublist.cons_cons _ (List.nil_sublist _))), ?_⟩)
    refine ExD.take (i := 10) rfl (by kernel_rfl) (pureVal_ok rfl) ((List.Sublist.cons_cons _ (List.Sublist.cons_cons _ (List.nil_sublist _)))) rfl rfl rfl ?_
    refine ExD.done (by kernel_rfl) ?_
    refine Ex.ret ?_
    refine RetQ.mk ((⟨max x5 0, x3.1⟩ : VAct), false) rfl (.cell rfl (.many rfl rfl rfl (SegO.whole (i := 2) rfl)) (.tmp rfl .nil)) (rfl) [] (rfl) rfl (ract_i hx5 hx3 (by simp_all) (by simp_all))
end Go.Proofs.YthabjnhfhmbamaaGreatDoor

/- What these functions of the program hand back, each proved by walking its operations. -/
set_option linter.unusedVariables false
set_option linter.unusedSimpArgs false
set_option maxRecDepth 4000
namespace Go.Proofs.YthabjnhfhmbamaaGreatDoor
open Go Go.Sx Go.RowKit Go.W Go.Proofs
attribute [local irreducible] Ex ExL ExD Op1 Free RetQ MutQ Reads CellO SegO LoadsAs
theorem e_9 : Enters Tryz.prog 9 := Enters.of Tryz.func9 rfl
theorem c_iReadActs (t : List UInt8) (hl : t.length ≤ 1048576) : Ret Tryz.prog 9 [sv t] (fun w => RdO 0 1 2 w ∧ TabO Tryz.prog w) (fun x : RdS VAct => .tuple #[.slice x.A x.l.length x.cap, .int .i64 x.code]) (fun x => [.row (.slice x.A x.l.length x.cap) 44 2 x.l.length (x.l.flatMap encA)]) (fun x => ActsRd t (x.l, x.code)) := by
  refine Ret.of e_9 Tryz.func9 rfl Tryz.ntmps9 rfl rfl (fun w hpre => ?_)
  have hrd := hpre.1
  have htab := hpre.2
  have hpp := splitA_pos 10 t
  have hpn := splitA_len 10 t []
  have hm0 : maxLen = 9223372036854775807 := rfl
  refine Ex.regSeq (ExL.pures 2 rfl ?_)
  refine ExL.nil ?_
  refine Ex.regSeq (ExL.pures 1 rfl ?_)
  refine ExL.op rfl (op_ret rfl rfl rfl (c_linesOf t (by omega)) (fun w hw => RdO.keep hrd hw) rfl rfl (fun x1 hx1 => ?_))
  refine ExL.pures 5 rfl ?_
  refine ExL.nil ?_
  refine Ex.seq ?_
  refine Ex.regSeq (ExL.pures 3 rfl ?_)
  refine ExL.bool (d := 18) rfl (fun hb2 => ?_) (fun hb2 => ?_)
  · replace hb2 := nd_t hb2
    refine ExL.pures 4 rfl ?_
    refine ExL.nil ?_
    refine Ex.cond_t rfl ?_
    refine Ex.regSeq (ExL.pures 2 rfl ?_)
    refine ExL.nil ?_
    refine Ex.nilRow 44 2 ?_
    refine Ex.ret ?_
    refine RetQ.mk ⟨[], 5, none, 0⟩ rfl (.tmp rfl (.tmp rfl .nil)) (rfl) [0] (rfl) rfl ((by first | exact acts_open (by assumption) | exact acts_60 (by omega)))
  · replace hb2 := nd_f hb2
    refine ExL.pures 2 rfl ?_
    refine ExL.gtr rfl rfl rfl rfl rfl rfl (fun h3 => ?_) (fun h3 => ?_)
    · refine ExL.pures 1 rfl ?_
      refine ExL.nil ?_
      refine Ex.cond_t rfl ?_
      refine Ex.regSeq (ExL.pures 2 rfl ?_)
      refine ExL.nil ?_
      refine Ex.nilRow 44 2 ?_
      refine Ex.ret ?_
      refine RetQ.mk ⟨[], 5, none, 0⟩ rfl (.tmp rfl (.tmp rfl .nil)) (rfl) [0] (rfl) rfl ((by first | exact acts_open (by assumption) | exact acts_60 (by omega)))
    · refine ExL.pures 1 rfl ?_
      refine ExL.nil ?_
      refine Ex.cond_f rfl ?_
      refine Ex.skip ?_
      refine Ex.regSeq (ExL.pures 0 rfl ?_)
      refine ExL.op rfl (op_buildSlice (sz := 2) rfl rfl rfl rfl rfl rfl rfl rfl (by decide) rfl rfl rfl (fun r4 => ?_))
      refine ExL.pures 1 rfl ?_
      refine ExL.nil ?_
      refine Ex.seq ?_
      refine Ex.regSeq (ExL.pures 3 rfl ?_)
      refine ExL.nil ?_
      refine Ex.block ?_
      refine Ex.loopK (X := TtS VAct) (fun q => [(6, .slice q.A q.l.length q.cap), (26, .int .i64 q.k)]) (fun q => [.row (.slice q.A q.l.length q.cap) 44 2 q.l.length (q.l.flatMap encA)]) (fun q => q.k + 1 ≤ (splitA 10 [] t).length ∧ q.l.length = q.k ∧ ActsOf t q.l) (fun q => (splitA 10 [] t).length - q.k) (⟨0, [], true, (some ⟨r4, 0, none⟩), 0⟩ : TtS VAct) [(24, _), (25, _)] [_] 2 [0, 1] ⟨rfl, rfl, trivial⟩ ⟨rfl, rfl, trivial⟩ (rfl) rfl ⟨hpp, rfl, ActsOf.nil t⟩ (fun q hI => ?_)
      have hI : q.k + 1 ≤ (splitA 10 [] t).length ∧ q.l.length = q.k ∧ ActsOf t q.l := hI
      obtain ⟨hqk, hql, hqc⟩ := hI
      refine Ex.regSeq (ExL.pures 0 rfl ?_)
      refine ExL.lss rfl rfl rfl rfl rfl rfl (fun h5 => ?_) (fun h5 => ?_)
      · refine ExL.nil ?_
        refine Ex.seq ?_
        refine Ex.cond_t rfl ?_
        refine Ex.skip ?_
        refine Ex.seq ?_
        refine Ex.block ?_
        have hpl := piece_le 10 t q.k
        refine Ex.regSeq (ExL.pures 0 rfl ?_)
        refine ExL.free (fr_indexAddr (sz := 1) rfl rfl rfl rfl rfl rfl (by omega)) rfl rfl rfl ?_
        refine ExL.free (fr_load rfl rfl rfl rfl (by first | exact cellN (Reads.row (i := 1) rfl) eSt_len ([] : List UInt8) 0 rfl (by omega) rfl | exact cellF (Reads.row (i := 1) rfl) eSt_len ([] : List UInt8) 0 rfl (by omega) rfl)) rfl rfl rfl ?_
        refine ExL.pures 1 rfl ?_
        refine ExL.nil ?_
        refine Ex.regSeq (ExL.pures 1 rfl ?_)
        refine ExL.op rfl (op_ret rfl rfl rfl (c_readAct ((splitA 10 [] t).getD q.k []) (by omega)) (fun w hw => ⟨RdO.keep hrd hw, TabO.keep htab hw⟩) rfl rfl (fun x6 hx6 => ?_))
        refine ExL.pures 3 rfl ?_
        refine ExL.op rfl (op_alloc rfl rfl rfl rfl rfl (fun b7 => ?_))
        refine ExL.op rfl (op_storeC (i := 0) rfl rfl rfl rfl rfl rfl rfl rfl rfl rfl ?_)
        refine ExL.pures 1 rfl ?_
        refine ExL.nil ?_
        refine Ex.seq ?_
        refine Ex.regSeq (ExL.pures 2 rfl ?_)
        refine ExL.nil ?_
        refine Ex.cond rfl (fun hb8 => ?_) (fun hb8 => ?_)
        · replace hb8 := nb_t hb8
          refine Ex.regSeq (ExL.pures 2 rfl ?_)
          refine ExL.nil ?_
          refine Ex.nilRow 44 2 ?_
          refine Ex.ret ?_
          refine RetQ.mk ⟨[], 5, none, 0⟩ rfl (.tmp rfl (.tmp rfl .nil)) (rfl) [0] (rfl) rfl ((by first | exact acts_open (by assumption) | exact acts_60 (by omega) | exact acts_bad (by omega) hx6 (by assumption)))
        · replace hb8 := nb_f hb8
          refine Ex.skip ?_
          refine Ex.region (ExL.pures 1 rfl ?_)
          refine ExL.free (fr_loadN rfl rfl rfl rfl rfl (SegO.whole (i := 0) rfl)) rfl rfl rfl ?_
          refine ExL.op rfl (op_buildSlice (sz := 2) rfl rfl rfl rfl rfl rfl rfl rfl (by decide) rfl rfl rfl (fun r9 => ?_))
          refine ExL.op rfl (op_append (sz := 2) (bytes := 16) (i := 2) rfl rfl rfl rfl (Reads.row (i := 0) rfl) rfl (fun e => nomatch e) rfl rfl rfl rfl (by constructor <;> first | omega | (unfold maxLen; omega)) rfl rfl (fun A10 cA10 => ?_))
          refine ExL.pures 1 rfl ?_
          refine ExL.nil ?_
          refine Ex.region (ExL.pures 0 rfl ?_)
          refine ExL.free (by first | exact fr_add64 rfl rfl rfl (by omega) | exact fr_add rfl rfl rfl) rfl rfl rfl ?_
          refine ExL.pures 1 rfl ?_
          refine ExL.nil ?_
          refine Hand.mk (⟨q.k + 1, q.l ++ [x6.1], true, A10, cA10⟩ : TtS VAct) 4 [2, 3] ⟨(by rw [List.length_append]; rfl), rfl, trivial⟩ ⟨rfl, rfl, trivial⟩ (by rw [List.length_append, List.flatMap_append]; rfl) rfl (⟨by dsimp only; omega, by rw [List.length_append, hql]; rfl, hqc.snoc (hx6.1 (by assumption)).1 (by rw [hql]; exact (hx6.1 (by assumption)).2)⟩) (by dsimp only; omega)
      · refine ExL.nil ?_
        refine Ex.seq ?_
        refine Ex.cond_f rfl ?_
        refine Ex.exit ?_
        refine Ex.regSeq (ExL.pures 3 rfl ?_)
        refine ExL.nil ?_
        refine Ex.ret ?_
        refine RetQ.mk ⟨q.l, 0, q.A, q.cap⟩ rfl (.tmp rfl (.tmp rfl .nil)) (rfl) [0] (rfl) rfl (acts_ok (l := q.l) hqc (by show _ = q.l.length + 1; omega) (by assumption) (by show q.l.length ≤ 60; omega))
end Go.Proofs.YthabjnhfhmbamaaGreatDoor

/- What these functions of the program hand back, each proved by walking its operations. -/
set_option linter.unusedVariables false
set_option linter.unusedSimpArgs false
set_option maxRecDepth 4000
namespace Go.Proofs.YthabjnhfhmbamaaGreatDoor
open Go Go.Sx Go.RowKit Go.W Go.Proofs
attribute [local irreducible] Ex ExL ExD Op1 Free RetQ MutQ Reads CellO SegO LoadsAs
theorem e_71 : Enters Tryz.prog 71 := Enters.of Tryz.func71 rfl
theorem copyCheck_n (b : Nat) (A : Option Addr) (n c : Nat) : Mut Tryz.prog 71 [.pointer (some ⟨b, 0, none⟩)] [.blk b [.pointer none, .slice A n c] 78] (fun base w0 F => True) (fun x : Unit => .tuple #[]) (fun x => [.blk b [.pointer (some ⟨b, 0, none⟩), .slice A n c] 78]) (fun x => True) := by
  refine Mut.of e_71 Tryz.func71 rfl Tryz.ntmps71 rfl rfl (fun base w0 F hfr => ?_)
  refine Ex.regSeq (ExL.pures 3 rfl ?_)
  refine ExL.free (fr_load rfl rfl rfl rfl (CellO.blk (i := 0) rfl rfl)) rfl rfl rfl ?_
  refine ExL.free (fr_eql_ptr_n rfl rfl rfl rfl) rfl rfl rfl ?_
  refine ExL.nil ?_
  refine Ex.cond_t rfl ?_
  refine Ex.region (ExL.pures 2 rfl ?_)
  refine ExL.free (fr_toUnsafe (i := 0) rfl rfl rfl rfl rfl rfl rfl rfl) rfl rfl rfl ?_
  refine ExL.free (fr_noEsc rfl rfl rfl rfl Tryz.func92 (by kernel_rfl) rfl (by kernel_rfl) (by kernel_rfl)) rfl rfl rfl ?_
  refine ExL.free (fr_fromUnsafe (i := 0) rfl rfl rfl rfl rfl rfl (by kernel_rfl)) rfl rfl rfl ?_
  refine ExL.pures 2 rfl ?_
  refine ExL.op rfl (op_storeC (i := 0) rfl rfl rfl rfl rfl rfl rfl rfl rfl rfl ?_)
  refine ExL.nil ?_
  refine MutQ.mk () rfl .nil (rfl) 1 [0] (rfl) rfl (trivial)
theorem copyCheck_s (b : Nat) (A : Option Addr) (n c : Nat) : Mut Tryz.prog 71 [.pointer (some ⟨b, 0, none⟩)] [.blk b [.pointer (some ⟨b, 0, none⟩), .slice A n c] 78] (fun base w0 F => True) (fun x : Unit => .tuple #[]) (fun x => [.blk b [.pointer (some ⟨b, 0, none⟩), .slice A n c] 78]) (fun x => True) := by
  refine Mut.of e_71 Tryz.func71 rfl Tryz.ntmps71 rfl rfl (fun base w0 F hfr => ?_)
  refine Ex.regSeq (ExL.pures 3 rfl ?_)
  refine ExL.free (fr_load rfl rfl rfl rfl (CellO.blk (i := 0) rfl rfl)) rfl rfl rfl ?_
  refine ExL.free (fr_eql_ptr_s rfl rfl rfl rfl) rfl rfl rfl ?_
  refine ExL.nil ?_
  refine Ex.cond_f rfl ?_
  refine Ex.regSeq (ExL.pures 3 rfl ?_)
  refine ExL.free (fr_load rfl rfl rfl rfl (CellO.blk (i := 0) rfl rfl)) rfl rfl rfl ?_
  refine ExL.pures 1 rfl ?_
  refine ExL.free (fr_neq_ptr_same rfl rfl rfl rfl rfl) rfl rfl rfl ?_
  refine ExL.nil ?_
  refine Ex.cond_f rfl ?_
  refine Ex.skip ?_
  refine MutQ.mk () rfl .nil (rfl) 1 [0] (rfl) rfl (trivial)
theorem copyCheck_j (b : Nat) (u : Bool) (A : Option Addr) (n c : Nat) : Mut Tryz.prog 71 [.pointer (some ⟨b, 0, none⟩)] [.blk b [bp b u, .slice A n c] 78] (fun _ _ _ => True) (fun _ : Unit => .tuple #[]) (fun _ => [.blk b [bp b true, .slice A n c] 78]) (fun _ => True) := by
  cases u
  · exact copyCheck_n b A n c
  · exact copyCheck_s b A n c
theorem e_35 : Enters Tryz.prog 35 := Enters.of Tryz.func35 rfl
theorem c_WriteString (b : Nat) (u : Bool) (xs : List UInt8) (A : Option Addr) (c : Nat) (l : List UInt8) (hb : xs.length + l.length ≤ 140737488355328) : Mut Tryz.prog 35 [.pointer (some ⟨b, 0, none⟩), sv l] [.blk b [bp b u, .slice A xs.length c] 78, .row (.slice A xs.length c) 5 1 xs.length (xs.flatMap eU)] (fun base w0 F => True) (fun x : Option Addr × Nat => .tuple #[.int .i64 l.length, .nilIface]) (fun x => [.blk b [bp b true, .slice x.1 (xs ++ l).length x.2] 78, .row (.slice x.1 (xs ++ l).length x.2) 5 1 (xs ++ l).length ((xs ++ l).flatMap eU)]) (fun x => True) := by
  refine Mut.of e_35 Tryz.func35 rfl Tryz.ntmps35 rfl rfl (fun base w0 F hfr => ?_)
  refine Ex.regSeq (ExL.pures 2 rfl ?_)
  refine ExL.nil ?_
  refine Ex.regSeq (ExL.pures 1 rfl ?_)
  refine ExL.op rfl (op_mut rfl rfl rfl (copyCheck_j b u _ _ _) (perm_at (i := 0) rfl) (trivial) rfl rfl (fun x1 hx1 => ?_))
  refine ExL.nil ?_
  refine Ex.regSeq (ExL.pures 4 rfl ?_)
  refine ExL.free (fr_load rfl rfl rfl rfl (CellO.blk (i := 0) rfl rfl)) rfl rfl rfl ?_
  refine ExL.pures 1 rfl ?_
  refine ExL.op rfl (op_appendT (xs := xs) (l := l) (i := 1) rfl rfl rfl rfl rfl rfl rfl rfl (by omega) rfl rfl (fun A2 cA2 => ?_))
  refine ExL.pures 2 rfl ?_
  refine ExL.op rfl (op_storeC (i := 0) rfl rfl rfl rfl rfl rfl rfl rfl rfl rfl ?_)
  refine ExL.nil ?_
  refine Ex.regSeq (ExL.pures 1 rfl ?_)
  refine ExL.free (fr_lenS (l := l) rfl rfl rfl) rfl rfl rfl ?_
  refine ExL.pures 2 rfl ?_
  refine ExL.nil ?_
  refine Ex.ret ?_
  refine MutQ.mk (A2, cA2) rfl (.tmp rfl (.tmp rfl .nil)) (rfl) 2 [0, 1] (rfl) rfl (trivial)
theorem e_37 : Enters Tryz.prog 37 := Enters.of Tryz.func37 rfl
theorem c_String_0 (b : Nat) (u : Bool) : Mut Tryz.prog 37 [.pointer (some ⟨b, 0, none⟩)] [.blk b [bp b u, .slice none 0 0] 78] (fun base w0 F => True) (fun x : Unit => sv []) (fun x => []) (fun x => True) := by
  refine Mut.of e_37 Tryz.func37 rfl Tryz.ntmps37 rfl rfl (fun base w0 F hfr => ?_)
  refine Ex.regSeq (ExL.pures 1 rfl ?_)
  refine ExL.nil ?_
  refine Ex.drawSeqM rfl ?_
  refine ExD.take (i := 0) rfl (by kernel_rfl) (pureVal_ok rfl) ((List.Sublist.refl _)) rfl rfl rfl ?_
  refine ExD.take (i := 1) rfl (by kernel_rfl) (pureVal_ok rfl) ((List.Sublist.refl _)) rfl rfl rfl ?_
  refine ExD.take (i := 2) rfl (by kernel_rfl) (pureVal_ok rfl) ((List.Sublist.refl _)) rfl rfl rfl ?_
  refine ExD.take (i := 3) rfl (by kernel_rfl) (fr_load rfl rfl rfl rfl (CellO.blk (i := 0) rfl rfl)) ((List.Sublist.refl _)) rfl rfl rfl ?_
  refine ExD.take (i := 4) rfl (by kernel_rfl) (fr_sliceData_n rfl rfl) ((List.Sublist.refl _)) rfl rfl rfl ?_
  refine ExD.take (i := 5) rfl (by kernel_rfl) (pureVal_ok rfl) ((List.Sublist.refl _)) rfl rfl rfl ?_
  refine ExD.take (i := 6) rfl (by kernel_rfl) (pureVal_ok rfl) ((List.Sublist.refl _)) rfl rfl rfl ?_
  refine ExD.take (i := 7) rfl (by kernel_rfl) (pureVal_ok rfl) ((List.Sublist.refl _)) rfl rfl rfl ?_
  refine ExD.take (i := 8) rfl (by kernel_rfl) (fr_load rfl rfl rfl rfl (CellO.blk (i := 0) rfl rfl)) ((List.Sublist.refl _)) rfl rfl rfl ?_
  refine ExD.take (i := 9) rfl (by kernel_rfl) (pureVal_ok rfl) ((List.Sublist.refl _)) rfl rfl rfl ?_
  refine ExD.take (i := 10) rfl (by kernel_rfl) (fr_unsafeString_n rfl rfl rfl) ((List.Sublist.refl _)) rfl rfl rfl ?_
  refine ExD.take (i := 11) rfl (by kernel_rfl) (pureVal_ok rfl) ((List.Sublist.refl _)) rfl rfl rfl ?_
  refine ExD.done (by kernel_rfl) ?_
  refine Ex.ret ?_
  refine MutQ.mk () rfl (.tmp rfl .nil) (rfl) 1 [] (rfl) rfl (trivial)
theorem c_String_1 (b : Nat) (u : Bool) (xs : List UInt8) (A : Option Addr) (c : Nat) (h0 : 0 < xs.length) : Mut Tryz.prog 37 [.pointer (some ⟨b, 0, none⟩)] [.blk b [bp b u, .slice A xs.length c] 78, .row (.slice A xs.length c) 5 1 xs.length (xs.flatMap eU)] (fun base w0 F => True) (fun x : Unit => sv xs) (fun x => []) (fun x => True) := by
  refine Mut.of e_37 Tryz.func37 rfl Tryz.ntmps37 rfl rfl (fun base w0 F hfr => ?_)
  refine Ex.know (row_own (i := 1) rfl h0) (fun ⟨g, hg, hc0⟩ => ?_)
  subst hg
  refine Ex.regSeq (ExL.pures 1 rfl ?_)
  refine ExL.nil ?_
  refine Ex.drawSeqI [0] rfl rfl ?_
  refine ExD.take (i := 0) rfl (by kernel_rfl) (pureVal_ok rfl) ((List.Sublist.cons_cons _ (List.nil_sublist _))) rfl rfl rfl ?_
  refine ExD.take (i := 1) rfl (by kernel_rfl) (pureVal_ok rfl) ((List.Sublist.cons_cons _ (List.nil_sublist _))) rfl rfl rfl ?_
  refine ExD.take (i := 2) rfl (by kernel_rfl) (pureVal_ok rfl) ((List.Sublist.cons_cons _ (List.nil_sublist _))) rfl rfl rfl ?_
  refine ExD.take (i := 3) rfl (by kernel_rfl) (fr_load rfl rfl rfl rfl (CellO.blk (i := 0) rfl rfl)) ((List.Sublist.cons_cons _ (List.nil_sublist _))) rfl rfl rfl ?_
  refine ExD.take (i := 4) rfl (by kernel_rfl) (fr_sliceData rfl rfl hc0) ((List.Sublist.cons_cons _ (List.nil_sublist _))) rfl rfl rfl ?_
  refine ExD.take (i := 5) rfl (by kernel_rfl) (pureVal_ok rfl) ((List.Sublist.cons_cons _ (List.nil_sublist _))) rfl rfl rfl ?_
  refine ExD.take (i := 6) rfl (by kernel_rfl) (pureVal_ok rfl) ((List.Sublist.cons_cons _ (List.nil_sublist _))) rfl rfl rfl ?_
  refine ExD.take (i := 7) rfl (by kernel_rfl) (pureVal_ok rfl) ((List.Sublist.cons_cons _ (List.nil_sublist _))) rfl rfl rfl ?_
  refine ExD.take (i := 8) rfl (by kernel_rfl) (fr_load rfl rfl rfl rfl (CellO.blk (i := 0) rfl rfl)) ((List.Sublist.cons_cons _ (List.nil_sublist _))) rfl rfl rfl ?_
  refine ExD.take (i := 9) rfl (by kernel_rfl) (pureVal_ok rfl) ((List.Sublist.cons_cons _ (List.nil_sublist _))) rfl rfl rfl ?_
  refine ExD.op (i := 10) rfl (by kernel_rfl) rfl (op_unsafeString (i := 1) (l := xs) rfl rfl rfl rfl rfl rfl rfl rfl (by omega) rfl rfl ⟨(List.Sublist.cons_cons _ (List.nil_sublist _)), ?_⟩)
  refine ExD.take (i := 11) rfl (by kernel_rfl) (pureVal_ok rfl) ((List.Sublist.cons_cons _ (List.nil_sublist _))) rfl rfl rfl ?_
  refine ExD.done (by kernel_rfl) ?_
  refine Ex.ret ?_
  refine MutQ.mk () rfl (.tmp rfl .nil) (rfl) 1 [] (rfl) rfl (trivial)
theorem c_String (b : Nat) (u : Bool) (xs : List UInt8) (A : Option Addr) (c : Nat) (h0 : xs = [] → A = none ∧ c = 0) : Mut Tryz.prog 37 [.pointer (some ⟨b, 0, none⟩)] [.blk b [bp b u, .slice A xs.length c] 78, .row (.slice A xs.length c) 5 1 xs.length (xs.flatMap eU)] (fun _ _ _ => True) (fun _ : Unit => sv xs) (fun _ => []) (fun _ => True) := by
  rcases Nat.eq_zero_or_pos xs.length with h | h
  · obtain rfl := List.eq_nil_of_length_eq_zero h
    obtain ⟨rfl, rfl⟩ := h0 rfl
    exact ⟨(c_String_0 b u).1, fun base w0 F w hf hh => (c_String_0 b u).2 base w0 F w hf (hh.sub (by exact List.Sublist.cons_cons _ (List.Sublist.cons _ (List.Sublist.refl _))))⟩
  · exact c_String_1 b u xs A c h
end Go.Proofs.YthabjnhfhmbamaaGreatDoor

/- What these functions of the program hand back, each proved by walking its operations. -/
set_option linter.unusedVariables false
set_option linter.unusedSimpArgs false
set_option maxRecDepth 4000
namespace Go.Proofs.YthabjnhfhmbamaaGreatDoor
open Go Go.Sx Go.RowKit Go.W Go.Proofs
attribute [local irreducible] Ex ExL ExD Op1 Free RetQ MutQ Reads CellO SegO LoadsAs
end Go.Proofs.YthabjnhfhmbamaaGreatDoor

/- What these functions of the program hand back, each proved by walking its operations. -/
set_option linter.unusedVariables false
set_option linter.unusedSimpArgs false
set_option maxRecDepth 4000
namespace Go.Proofs.YthabjnhfhmbamaaGreatDoor
open Go Go.Sx Go.RowKit Go.W Go.Proofs
attribute [local irreducible] Ex ExL ExD Op1 Free RetQ MutQ Reads CellO SegO LoadsAs
theorem e_50 : Enters Tryz.prog 50 := Enters.of Tryz.func50 rfl
theorem c_l07Ok (d : VDev) (hk : OkDev d) (Ad : Option Addr) (cd : Nat) (b : Nat) : Ret Tryz.prog 50 [.pointer (some ⟨b, 0, none⟩)] (fun w => Rd w (some ⟨b, 0, none⟩) (encV Ad cd d) ∧ Rd w Ad (d.stack.flatMap (eI .u8))) (fun x : Unit => .bool (validDev d)) (fun x => []) (fun x => True) := by
  refine Ret.of e_50 Tryz.func50 rfl Tryz.ntmps50 rfl rfl (fun w hpre => ?_)
  have hp := hpre.1.base
  have hd := hpre.2.base
  obtain ⟨hl, hu, ha, hpp, htt⟩ := hk
  have hm0 : maxLen = 9223372036854775807 := rfl
  have hz := size_bd hu d.stack.length
  rw [List.take_length] at hz
  refine Ex.regSeq (ExL.pures 1 rfl ?_)
  refine ExL.nil ?_
  refine Ex.seq ?_
  refine Ex.drawSeqM rfl ?_
  refine ExD.take (i := 0) rfl (by kernel_rfl) (pureVal_ok rfl) ((List.Sublist.refl _)) rfl rfl rfl ?_
  refine ExD.take (i := 1) rfl (by kernel_rfl) (pureVal_ok rfl) ((List.Sublist.refl _)) rfl rfl rfl ?_
  refine ExD.take (i := 2) rfl (by kernel_rfl) (pureVal_ok rfl) ((List.Sublist.refl _)) rfl rfl rfl ?_
  refine ExD.take (i := 3) rfl (by kernel_rfl) (fr_load rfl rfl rfl rfl (CellO.at 0 (Reads.old hp) rfl)) ((List.Sublist.refl _)) rfl rfl rfl ?_
  refine ExD.take (i := 4) rfl (by kernel_rfl) (pureVal_ok rfl) ((List.Sublist.refl _)) rfl rfl rfl ?_
  refine ExD.take (i := 5) rfl (by kernel_rfl) (pureVal_ok rfl) ((List.Sublist.refl _)) rfl rfl rfl ?_
  refine ExD.take (i := 6) rfl (by kernel_rfl) (pureVal_ok rfl) ((List.Sublist.refl _)) rfl rfl rfl ?_
  refine ExD.take (i := 7) rfl (by kernel_rfl) (fr_loadN rfl rfl rfl rfl rfl (SegO.at 1 8 (Reads.old hp) rfl)) ((List.Sublist.refl _)) rfl rfl rfl ?_
  refine ExD.op (i := 8) rfl (by kernel_rfl) rfl (op_ret rfl rfl rfl (c_sValidDigits d.stack (by assumption) _ _ (by omega) d.shows (by assumption)) (Reads.get (Reads.old hd)) rfl rfl (fun x1 hx1 => ⟨(List.Sublist.refl _), ?_⟩))
  refine ExD.take (i := 9) rfl (by kernel_rfl) (pureVal_ok rfl) ((List.Sublist.refl _)) rfl rfl rfl ?_
  refine ExD.take (i := 10) rfl (by kernel_rfl) (pureVal_ok rfl) ((List.Sublist.refl _)) rfl rfl rfl ?_
  refine ExD.bool (d := 13) rfl (fun hb2 => ?_) (fun hb2 => ?_)
  · replace hb2 := nb_t hb2
    refine ExD.pass (i := 11) rfl (by kernel_rfl) ((List.Sublist.refl _)) rfl rfl rfl ?_
    refine ExD.pass (i := 12) rfl (by kernel_rfl) ((List.Sublist.refl _)) rfl rfl rfl ?_
    refine ExD.pass (i := 13) rfl (by kernel_rfl) ((List.Sublist.refl _)) rfl rfl rfl ?_
    refine ExD.pass (i := 14) rfl (by kernel_rfl) ((List.Sublist.refl _)) rfl rfl rfl ?_
    refine ExD.pass (i := 15) rfl (by kernel_rfl) ((List.Sublist.refl _)) rfl rfl rfl ?_
    refine ExD.pass (i := 16) rfl (by kernel_rfl) ((List.Sublist.refl _)) rfl rfl rfl ?_
    refine ExD.pass (i := 17) rfl (by kernel_rfl) ((List.Sublist.refl _)) rfl rfl rfl ?_
    refine ExD.pass (i := 18) rfl (by kernel_rfl) ((List.Sublist.refl _)) rfl rfl rfl ?_
    refine ExD.pass (i := 19) rfl (by kernel_rfl) ((List.Sublist.refl _)) rfl rfl rfl ?_
    refine ExD.pass (i := 20) rfl (by kernel_rfl) ((List.Sublist.refl _)) rfl rfl rfl ?_
    refine ExD.pass (i := 21) rfl (by kernel_rfl) ((List.Sublist.refl _)) rfl rfl rfl ?_
    refine ExD.pass (i := 22) rfl (by kernel_rfl) ((List.Sublist.refl _)) rfl rfl rfl ?_
    refine ExD.take (i := 23) rfl (by kernel_rfl) (pureVal_ok rfl) ((List.Sublist.refl _)) rfl rfl rfl ?_
    refine ExD.take (i := 24) rfl (by kernel_rfl) (pureVal_ok rfl) ((List.Sublist.refl _)) rfl rfl rfl ?_
    refine ExD.pass (i := 25) rfl (by kernel_rfl) ((List.Sublist.refl _)) rfl rfl rfl ?_
    refine ExD.pass (i := 26) rfl (by kernel_rfl) ((List.Sublist.refl _)) rfl rfl rfl ?_
    refine ExD.pass (i := 27) rfl (by kernel_rfl) ((List.Sublist.refl _)) rfl rfl rfl ?_
    refine ExD.pass (i := 28) rfl (by kernel_rfl) ((List.Sublist.refl _)) rfl rfl rfl ?_
    refine ExD.pass (i := 29) rfl (by kernel_rfl) ((List.Sublist.refl _)) rfl rfl rfl ?_
    refine ExD.pass (i := 30) rfl (by kernel_rfl) ((List.Sublist.refl _)) rfl rfl rfl ?_
    refine ExD.take (i := 31) rfl (by kernel_rfl) (pureVal_ok rfl) ((List.Sublist.refl _)) rfl rfl rfl ?_
    refine ExD.done (by kernel_rfl) ?_
    refine Ex.cond_t rfl ?_
    refine Ex.regSeq (ExL.pures 1 rfl ?_)
    refine ExL.nil ?_
    refine Ex.ret ?_
    refine RetQ.mk () rfl (.tmp rfl .nil) (tB (by unfold validDev VDev.v; first | exact dec_f (by rintro ⟨q1, q2, q3, q4, q5⟩; omega) | exact dec_f (by rintro ⟨q1, q2, q3, q4, q5⟩; simp_all; done) | exact dec_f (by rintro ⟨q1, q2, q3, q4, q5⟩; simp_all; omega) | exact dec_t ⟨by simp_all, by simp_all, by omega, by omega, by simp_all⟩)) [] (rfl) rfl (trivial)
  · replace hb2 := nb_f hb2
    refine ExD.take (i := 11) rfl (by kernel_rfl) (pureVal_ok rfl) ((List.Sublist.refl _)) rfl rfl rfl ?_
    refine ExD.take (i := 12) rfl (by kernel_rfl) (pureVal_ok rfl) ((List.Sublist.refl _)) rfl rfl rfl ?_
    refine ExD.take (i := 13) rfl (by kernel_rfl) (pureVal_ok rfl) ((List.Sublist.refl _)) rfl rfl rfl ?_
    refine ExD.take (i := 14) rfl (by kernel_rfl) (fr_load rfl rfl rfl rfl (CellO.at 9 (Reads.old hp) rfl)) ((List.Sublist.refl _)) rfl rfl rfl ?_
    refine ExD.take (i := 15) rfl (by kernel_rfl) (pureVal_ok rfl) ((List.Sublist.refl _)) rfl rfl rfl ?_
    refine ExD.take (i := 16) rfl (by kernel_rfl) (pureVal_ok rfl) ((List.Sublist.refl _)) rfl rfl rfl ?_
    refine ExD.take (i := 17) rfl (by kernel_rfl) (pureVal_ok rfl) ((List.Sublist.refl _)) rfl rfl rfl ?_
    refine ExD.take (i := 18) rfl (by kernel_rfl) (fr_load rfl rfl rfl rfl (CellO.at 0 (Reads.old hp) rfl)) ((List.Sublist.refl _)) rfl rfl rfl ?_
    refine ExD.op (i := 19) rfl (by kernel_rfl) rfl (op_ret rfl rfl rfl (c_l01Size _ (by assumption) _ _ (by first | assumption | omega | (unfold maxLen; omega))) (Reads.get (Reads.old hd)) rfl rfl (fun x3 hx3 => ⟨(List.Sublist.refl _), ?_⟩))
    refine ExD.take (i := 20) rfl (by kernel_rfl) (by first | exact fr_sub64 rfl rfl rfl (by omega) | exact fr_sub rfl rfl rfl) ((List.Sublist.refl _)) rfl rfl rfl ?_
    refine ExD.op (i := 21) rfl (by kernel_rfl) rfl (op_ret rfl rfl rfl (c_l00In _ _ _) (fun _ _ => trivial) rfl rfl (fun x4 hx4 => ⟨(List.Sublist.refl _), ?_⟩))
    refine ExD.take (i := 22) rfl (by kernel_rfl) (pureVal_ok rfl) ((List.Sublist.refl _)) rfl rfl rfl ?_
    refine ExD.take (i := 23) rfl (by kernel_rfl) (pureVal_ok rfl) ((List.Sublist.refl _)) rfl rfl rfl ?_
    refine ExD.take (i := 24) rfl (by kernel_rfl) (pureVal_ok rfl) ((List.Sublist.refl _)) rfl rfl rfl ?_
    refine ExD.bool (d := 27) rfl (fun hb5 => ?_) (fun hb5 => ?_)
    · replace hb5 := nd_t hb5
      refine ExD.pass (i := 25) rfl (by kernel_rfl) ((List.Sublist.refl _)) rfl rfl rfl ?_
      refine ExD.pass (i := 26) rfl (by kernel_rfl) ((List.Sublist.refl _)) rfl rfl rfl ?_
      refine ExD.pass (i := 27) rfl (by kernel_rfl) ((List.Sublist.refl _)) rfl rfl rfl ?_
      refine ExD.pass (i := 28) rfl (by kernel_rfl) ((List.Sublist.refl _)) rfl rfl rfl ?_
      refine ExD.pass (i := 29) rfl (by kernel_rfl) ((List.Sublist.refl _)) rfl rfl rfl ?_
      refine ExD.pass (i := 30) rfl (by kernel_rfl) ((List.Sublist.refl _)) rfl rfl rfl ?_
      refine ExD.take (i := 31) rfl (by kernel_rfl) (pureVal_ok rfl) ((List.Sublist.refl _)) rfl rfl rfl ?_
      refine ExD.done (by kernel_rfl) ?_
      refine Ex.cond_t rfl ?_
      refine Ex.regSeq (ExL.pures 1 rfl ?_)
      refine ExL.nil ?_
      refine Ex.ret ?_
      refine RetQ.mk () rfl (.tmp rfl .nil) (tB (by unfold validDev VDev.v; first | exact dec_f (by rintro ⟨q1, q2, q3, q4, q5⟩; omega) | exact dec_f (by rintro ⟨q1, q2, q3, q4, q5⟩; simp_all; done) | exact dec_f (by rintro ⟨q1, q2, q3, q4, q5⟩; simp_all; omega) | exact dec_t ⟨by simp_all, by simp_all, by omega, by omega, by simp_all⟩)) [] (rfl) rfl (trivial)
    · replace hb5 := nd_f hb5
      refine ExD.take (i := 25) rfl (by kernel_rfl) (pureVal_ok rfl) ((List.Sublist.refl _)) rfl rfl rfl ?_
      refine ExD.take (i := 26) rfl (by kernel_rfl) (pureVal_ok rfl) ((List.Sublist.refl _)) rfl rfl rfl ?_
      refine ExD.take (i := 27) rfl (by kernel_rfl) (pureVal_ok rfl) ((List.Sublist.refl _)) rfl rfl rfl ?_
      refine ExD.take (i := 28) rfl (by kernel_rfl) (fr_load rfl rfl rfl rfl (CellO.at 11 (Reads.old hp) rfl)) ((List.Sublist.refl _)) rfl rfl rfl ?_
      refine ExD.op (i := 29) rfl (by kernel_rfl) rfl (op_ret rfl rfl rfl (c_l00In _ _ _) (fun _ _ => trivial) rfl rfl (fun x6 hx6 => ⟨(List.Sublist.refl _), ?_⟩))
      refine ExD.take (i := 30) rfl (by kernel_rfl) (pureVal_ok rfl) ((List.Sublist.refl _)) rfl rfl rfl ?_
      refine ExD.take (i := 31) rfl (by kernel_rfl) (pureVal_ok rfl) ((List.Sublist.refl _)) rfl rfl rfl ?_
      refine ExD.done (by kernel_rfl) ?_
      refine Ex.cond rfl (fun hb7 => ?_) (fun hb7 => ?_)
      · replace hb7 := nd_t hb7
        refine Ex.regSeq (ExL.pures 1 rfl ?_)
        refine ExL.nil ?_
        refine Ex.ret ?_
        refine RetQ.mk () rfl (.tmp rfl .nil) (tB (by unfold validDev VDev.v; first | exact dec_f (by rintro ⟨q1, q2, q3, q4, q5⟩; omega) | exact dec_f (by rintro ⟨q1, q2, q3, q4, q5⟩; simp_all; done) | exact dec_f (by rintro ⟨q1, q2, q3, q4, q5⟩; simp_all; omega) | exact dec_t ⟨by simp_all, by simp_all, by omega, by omega, by simp_all⟩)) [] (rfl) rfl (trivial)
      · replace hb7 := nd_f hb7
        refine Ex.skip ?_
        refine Ex.drawSeqM rfl ?_
        refine ExD.take (i := 0) rfl (by kernel_rfl) (pureVal_ok rfl) ((List.Sublist.refl _)) rfl rfl rfl ?_
        refine ExD.take (i := 1) rfl (by kernel_rfl) (pureVal_ok rfl) ((List.Sublist.refl _)) rfl rfl rfl ?_
        refine ExD.take (i := 2) rfl (by kernel_rfl) (pureVal_ok rfl) ((List.Sublist.refl _)) rfl rfl rfl ?_
        refine ExD.take (i := 3) rfl (by kernel_rfl) (fr_load rfl rfl rfl rfl (CellO.at 10 (Reads.old hp) rfl)) ((List.Sublist.refl _)) rfl rfl rfl ?_
        refine ExD.take (i := 4) rfl (by kernel_rfl) (pureVal_ok rfl) ((List.Sublist.refl _)) rfl rfl rfl ?_
        refine ExD.take (i := 5) rfl (by kernel_rfl) (pureVal_ok rfl) ((List.Sublist.refl _)) rfl rfl rfl ?_
        refine ExD.bool (d := 40) rfl (fun hb8 => ?_) (fun hb8 => ?_)
        · replace hb8 := nb_t hb8
          refine ExD.pass (i := 6) rfl (by kernel_rfl) ((List.Sublist.refl _)) rfl rfl rfl ?_
          refine ExD.pass (i := 7) rfl (by kernel_rfl) ((List.Sublist.refl _)) rfl rfl rfl ?_
          refine ExD.pass (i := 8) rfl (by kernel_rfl) ((List.Sublist.refl _)) rfl rfl rfl ?_
          refine ExD.pass (i := 9) rfl (by kernel_rfl) ((List.Sublist.refl _)) rfl rfl rfl ?_
          refine ExD.pass (i := 10) rfl (by kernel_rfl) ((List.Sublist.refl _)) rfl rfl rfl ?_
          refine ExD.pass (i := 11) rfl (by kernel_rfl) ((List.Sublist.refl _)) rfl rfl rfl ?_
          refine ExD.pass (i := 12) rfl (by kernel_rfl) ((List.Sublist.refl _)) rfl rfl rfl ?_
          refine ExD.pass (i := 13) rfl (by kernel_rfl) ((List.Sublist.refl _)) rfl rfl rfl ?_
          refine ExD.pass (i := 14) rfl (by kernel_rfl) ((List.Sublist.refl _)) rfl rfl rfl ?_
          refine ExD.pass (i := 15) rfl (by kernel_rfl) ((List.Sublist.refl _)) rfl rfl rfl ?_
          refine ExD.pass (i := 16) rfl (by kernel_rfl) ((List.Sublist.refl _)) rfl rfl rfl ?_
          refine ExD.pass (i := 17) rfl (by kernel_rfl) ((List.Sublist.refl _)) rfl rfl rfl ?_
          refine ExD.pass (i := 18) rfl (by kernel_rfl) ((List.Sublist.refl _)) rfl rfl rfl ?_
          refine ExD.pass (i := 19) rfl (by kernel_rfl) ((List.Sublist.refl _)) rfl rfl rfl ?_
          refine ExD.take (i := 20) rfl (by kernel_rfl) (pureVal_ok rfl) ((List.Sublist.refl _)) rfl rfl rfl ?_
          refine ExD.take (i := 21) rfl (by kernel_rfl) (pureVal_ok rfl) ((List.Sublist.refl _)) rfl rfl rfl ?_
          refine ExD.done (by kernel_rfl) ?_
          refine Ex.ret ?_
          refine RetQ.mk () rfl (.tmp rfl .nil) (tB (by unfold validDev VDev.v; first | exact dec_f (by rintro ⟨q1, q2, q3, q4, q5⟩; omega) | exact dec_f (by rintro ⟨q1, q2, q3, q4, q5⟩; simp_all; done) | exact dec_f (by rintro ⟨q1, q2, q3, q4, q5⟩; simp_all; omega) | exact dec_t ⟨by simp_all, by simp_all, by omega, by omega, by simp_all⟩)) [] (rfl) rfl (trivial)
        · replace hb8 := nb_f hb8
          refine ExD.take (i := 6) rfl (by kernel_rfl) (pureVal_ok rfl) ((List.Sublist.refl _)) rfl rfl rfl ?_
          refine ExD.take (i := 7) rfl (by kernel_rfl) (pureVal_ok rfl) ((List.Sublist.refl _)) rfl rfl rfl ?_
          refine ExD.take (i := 8) rfl (by kernel_rfl) (pureVal_ok rfl) ((List.Sublist.refl _)) rfl rfl rfl ?_
          refine ExD.take (i := 9) rfl (by kernel_rfl) (fr_load rfl rfl rfl rfl (CellO.at 9 (Reads.old hp) rfl)) ((List.Sublist.refl _)) rfl rfl rfl ?_
          refine ExD.take (i := 10) rfl (by kernel_rfl) (pureVal_ok rfl) ((List.Sublist.refl _)) rfl rfl rfl ?_
          refine ExD.take (i := 11) rfl (by kernel_rfl) (pureVal_ok rfl) ((List.Sublist.refl _)) rfl rfl rfl ?_
          refine ExD.take (i := 12) rfl (by kernel_rfl) (pureVal_ok rfl) ((List.Sublist.refl _)) rfl rfl rfl ?_
          refine ExD.take (i := 13) rfl (by kernel_rfl) (fr_load rfl rfl rfl rfl (CellO.at 0 (Reads.old hp) rfl)) ((List.Sublist.refl _)) rfl rfl rfl ?_
          refine ExD.take (i := 14) rfl (by kernel_rfl) (pureVal_ok rfl) ((List.Sublist.refl _)) rfl rfl rfl ?_
          refine ExD.take (i := 15) rfl (by kernel_rfl) (pureVal_ok rfl) ((List.Sublist.refl _)) rfl rfl rfl ?_
          refine ExD.take (i := 16) rfl (by kernel_rfl) (pureVal_ok rfl) ((List.Sublist.refl _)) rfl rfl rfl ?_
          refine ExD.take (i := 17) rfl (by kernel_rfl) (fr_loadN rfl rfl rfl rfl rfl (SegO.at 1 8 (Reads.old hp) rfl)) ((List.Sublist.refl _)) rfl rfl rfl ?_
          refine ExD.op (i := 18) rfl (by kernel_rfl) rfl (op_ret rfl rfl rfl (c_l01Value d.stack (by first | assumption | simp_all) _ _ d.shows (by assumption) (by first | assumption | simp_all)) (Reads.get (Reads.old hd)) rfl rfl (fun x9 hx9 => ⟨(List.Sublist.refl _), ?_⟩))
          refine ExD.cmp_eql (i := 19) rfl (by kernel_rfl) rfl rfl rfl ((List.Sublist.refl _)) rfl rfl rfl (fun h10 => ?_) (fun h10 => ?_)
          · refine ExD.take (i := 20) rfl (by kernel_rfl) (pureVal_ok rfl) ((List.Sublist.refl _)) rfl rfl rfl ?_
            refine ExD.take (i := 21) rfl (by kernel_rfl) (pureVal_ok rfl) ((List.Sublist.refl _)) rfl rfl rfl ?_
            refine ExD.done (by kernel_rfl) ?_
            refine Ex.ret ?_
            refine RetQ.mk () rfl (.tmp rfl .nil) (tB (by unfold validDev VDev.v; first | exact dec_f (by rintro ⟨q1, q2, q3, q4, q5⟩; omega) | exact dec_f (by rintro ⟨q1, q2, q3, q4, q5⟩; simp_all; done) | exact dec_f (by rintro ⟨q1, q2, q3, q4, q5⟩; simp_all; omega) | exact dec_t ⟨by simp_all, by simp_all, by omega, by omega, by simp_all⟩)) [] (rfl) rfl (trivial)
          · refine ExD.take (i := 20) rfl (by kernel_rfl) (pureVal_ok rfl) ((List.Sublist.refl _)) rfl rfl rfl ?_
            refine ExD.take (i := 21) rfl (by kernel_rfl) (pureVal_ok rfl) ((List.Sublist.refl _)) rfl rfl rfl ?_
            refine ExD.done (by kernel_rfl) ?_
            refine Ex.ret ?_
            refine RetQ.mk () rfl (.tmp rfl .nil) (tB (by unfold validDev VDev.v; first | exact dec_f (by rintro ⟨q1, q2, q3, q4, q5⟩; omega) | exact dec_f (by rintro ⟨q1, q2, q3, q4, q5⟩; simp_all; done) | exact dec_f (by rintro ⟨q1, q2, q3, q4, q5⟩; simp_all; omega) | exact dec_t ⟨by simp_all, by simp_all, by omega, by omega, by simp_all⟩)) [] (rfl) rfl (trivial)
theorem e_15 : Enters Tryz.prog 15 := Enters.of Tryz.func15 rfl
theorem c_iValidDevice (d : VDev) (hk : OkDev d) (Ad : Option Addr) (cd : Nat) : Ret Tryz.prog 15 [.agg (encV Ad cd d).toArray] (fun w => Rd w Ad (d.stack.flatMap (eI .u8))) (fun x : Unit => .bool (validDev d)) (fun x => []) (fun x => True) := by
  refine Ret.of e_15 Tryz.func15 rfl Tryz.ntmps15 rfl rfl (fun w hpre => ?_)
  have hd := hpre.base
  obtain ⟨hl, hu, ha, hpp, htt⟩ := hk
  have hm0 : maxLen = 9223372036854775807 := rfl
  have hz := size_bd hu d.stack.length
  rw [List.take_length] at hz
  refine Ex.regSeq (ExL.pures 0 rfl ?_)
  refine ExL.op rfl (op_box rfl rfl rfl rfl rfl (fun b1 => ?_))
  refine ExL.pures 1 rfl ?_
  refine ExL.nil ?_
  refine Ex.seq ?_
  refine Ex.regSeq (ExL.pures 1 rfl ?_)
  refine ExL.free (fr_load rfl rfl rfl rfl (CellO.blk (i := 0) rfl rfl)) rfl rfl rfl ?_
  refine ExL.pures 1 rfl ?_
  refine ExL.free (fr_loadN rfl rfl rfl rfl rfl (SegO.part (i := 0) 8 rfl)) rfl rfl rfl ?_
  refine ExL.op rfl (op_ret rfl rfl rfl (c_iValidDigits d.stack (by assumption) _ _ (by omega) d.shows (by assumption)) (Reads.get (Reads.old hd)) rfl rfl (fun x2 hx2 => ?_))
  refine ExL.pures 2 rfl ?_
  refine ExL.bool (d := 9) rfl (fun hb3 => ?_) (fun hb3 => ?_)
  · replace hb3 := nb_t hb3
    refine ExL.pures 5 rfl ?_
    refine ExL.nil ?_
    refine Ex.cond_t rfl ?_
    refine Ex.regSeq (ExL.pures 1 rfl ?_)
    refine ExL.nil ?_
    refine Ex.ret ?_
    refine RetQ.mk () rfl (.tmp rfl .nil) (tB (by unfold validDev VDev.v; first | exact dec_f (by rintro ⟨q1, q2, q3, q4, q5⟩; omega) | exact dec_f (by rintro ⟨q1, q2, q3, q4, q5⟩; simp_all; done) | exact dec_f (by rintro ⟨q1, q2, q3, q4, q5⟩; simp_all; omega) | exact dec_t ⟨by simp_all, by simp_all, by omega, by omega, by simp_all⟩)) [] (rfl) rfl (trivial)
  · replace hb3 := nb_f hb3
    refine ExL.pures 1 rfl ?_
    refine ExL.free (fr_load rfl rfl rfl rfl (CellO.blk (i := 0) rfl rfl)) rfl rfl rfl ?_
    refine ExL.op rfl (op_ret rfl rfl rfl (c_within _ _ _) (fun _ _ => trivial) rfl rfl (fun x4 hx4 => ?_))
    refine ExL.pures 2 rfl ?_
    refine ExL.nil ?_
    refine Ex.cond rfl (fun hb5 => ?_) (fun hb5 => ?_)
    · replace hb5 := nd_t hb5
      refine Ex.regSeq (ExL.pures 1 rfl ?_)
      refine ExL.nil ?_
      refine Ex.ret ?_
      refine RetQ.mk () rfl (.tmp rfl .nil) (tB (by unfold validDev VDev.v; first | exact dec_f (by rintro ⟨q1, q2, q3, q4, q5⟩; omega) | exact dec_f (by rintro ⟨q1, q2, q3, q4, q5⟩; simp_all; done) | exact dec_f (by rintro ⟨q1, q2, q3, q4, q5⟩; simp_all; omega) | exact dec_t ⟨by simp_all, by simp_all, by omega, by omega, by simp_all⟩)) [] (rfl) rfl (trivial)
    · replace hb5 := nd_f hb5
      refine Ex.skip ?_
      refine Ex.seq ?_
      refine Ex.regSeq (ExL.pures 1 rfl ?_)
      refine ExL.free (fr_load rfl rfl rfl rfl (CellO.blk (i := 0) rfl rfl)) rfl rfl rfl ?_
      refine ExL.neq rfl rfl rfl rfl rfl rfl (fun h6 => ?_) (fun h6 => ?_)
      · refine ExL.pures 2 rfl ?_
        refine ExL.free (fr_load rfl rfl rfl rfl (CellO.blk (i := 0) rfl rfl)) rfl rfl rfl ?_
        refine ExL.pures 1 rfl ?_
        refine ExL.free (fr_load rfl rfl rfl rfl (CellO.blk (i := 0) rfl rfl)) rfl rfl rfl ?_
        refine ExL.op rfl (op_ret rfl rfl rfl (c_hasValue d.stack (by assumption) _ _ (by omega) _) (Reads.get (Reads.old hd)) rfl rfl (fun x7 hx7 => ?_))
        refine ExL.pures 2 rfl ?_
        refine ExL.nil ?_
        refine Ex.cond rfl (fun hb8 => ?_) (fun hb8 => ?_)
        · replace hb8 := nd_t hb8
          refine Ex.regSeq (ExL.pures 1 rfl ?_)
          refine ExL.nil ?_
          refine Ex.ret ?_
          refine RetQ.mk () rfl (.tmp rfl .nil) (tB (by unfold validDev VDev.v; first | exact dec_f (by rintro ⟨q1, q2, q3, q4, q5⟩; omega) | exact dec_f (by rintro ⟨q1, q2, q3, q4, q5⟩; simp_all; done) | exact dec_f (by rintro ⟨q1, q2, q3, q4, q5⟩; simp_all; omega) | exact dec_t ⟨by simp_all, by simp_all, by omega, by omega, by simp_all⟩)) [] (rfl) rfl (trivial)
        · replace hb8 := nd_f hb8
          refine Ex.skip ?_
          refine Ex.drawSeqM rfl ?_
          refine ExD.take (i := 0) rfl (by kernel_rfl) (pureVal_ok rfl) ((List.Sublist.refl _)) rfl rfl rfl ?_
          refine ExD.take (i := 1) rfl (by kernel_rfl) (fr_load rfl rfl rfl rfl (CellO.blk (i := 0) rfl rfl)) ((List.Sublist.refl _)) rfl rfl rfl ?_
          refine ExD.take (i := 2) rfl (by kernel_rfl) (pureVal_ok rfl) ((List.Sublist.refl _)) rfl rfl rfl ?_
          refine ExD.take (i := 3) rfl (by kernel_rfl) (pureVal_ok rfl) ((List.Sublist.refl _)) rfl rfl rfl ?_
          refine ExD.bool (d := 29) rfl (fun hb9 => ?_) (fun hb9 => ?_)
          · replace hb9 := nb_t hb9
            refine ExD.pass (i := 4) rfl (by kernel_rfl) ((List.Sublist.refl _)) rfl rfl rfl ?_
            refine ExD.pass (i := 5) rfl (by kernel_rfl) ((List.Sublist.refl _)) rfl rfl rfl ?_
            refine ExD.pass (i := 6) rfl (by kernel_rfl) ((List.Sublist.refl _)) rfl rfl rfl ?_
            refine ExD.pass (i := 7) rfl (by kernel_rfl) ((List.Sublist.refl _)) rfl rfl rfl ?_
            refine ExD.pass (i := 8) rfl (by kernel_rfl) ((List.Sublist.refl _)) rfl rfl rfl ?_
            refine ExD.pass (i := 9) rfl (by kernel_rfl) ((List.Sublist.refl _)) rfl rfl rfl ?_
            refine ExD.pass (i := 10) rfl (by kernel_rfl) ((List.Sublist.refl _)) rfl rfl rfl ?_
            refine ExD.pass (i := 11) rfl (by kernel_rfl) ((List.Sublist.refl _)) rfl rfl rfl ?_
            refine ExD.take (i := 12) rfl (by kernel_rfl) (pureVal_ok rfl) ((List.Sublist.refl _)) rfl rfl rfl ?_
            refine ExD.take (i := 13) rfl (by kernel_rfl) (pureVal_ok rfl) ((List.Sublist.refl _)) rfl rfl rfl ?_
            refine ExD.done (by kernel_rfl) ?_
            refine Ex.ret ?_
            refine RetQ.mk () rfl (.tmp rfl .nil) (tB (by unfold validDev VDev.v; first | exact dec_f (by rintro ⟨q1, q2, q3, q4, q5⟩; omega) | exact dec_f (by rintro ⟨q1, q2, q3, q4, q5⟩; simp_all; done) | exact dec_f (by rintro ⟨q1, q2, q3, q4, q5⟩; simp_all; omega) | exact dec_t ⟨by simp_all, by simp_all, by omega, by omega, by simp_all⟩)) [] (rfl) rfl (trivial)
          · replace hb9 := nb_f hb9
            refine ExD.take (i := 4) rfl (by kernel_rfl) (pureVal_ok rfl) ((List.Sublist.refl _)) rfl rfl rfl ?_
            refine ExD.take (i := 5) rfl (by kernel_rfl) (fr_load rfl rfl rfl rfl (CellO.blk (i := 0) rfl rfl)) ((List.Sublist.refl _)) rfl rfl rfl ?_
            refine ExD.take (i := 6) rfl (by kernel_rfl) (pureVal_ok rfl) ((List.Sublist.refl _)) rfl rfl rfl ?_
            refine ExD.take (i := 7) rfl (by kernel_rfl) (fr_load rfl rfl rfl rfl (CellO.blk (i := 0) rfl rfl)) ((List.Sublist.refl _)) rfl rfl rfl ?_
            refine ExD.take (i := 8) rfl (by kernel_rfl) (pureVal_ok rfl) ((List.Sublist.refl _)) rfl rfl rfl ?_
            refine ExD.take (i := 9) rfl (by kernel_rfl) (fr_loadN rfl rfl rfl rfl rfl (SegO.part (i := 0) 8 rfl)) ((List.Sublist.refl _)) rfl rfl rfl ?_
            refine ExD.op (i := 10) rfl (by kernel_rfl) rfl (op_ret rfl rfl rfl (c_value d.stack (by first | assumption | simp_all) _ _ d.shows (by assumption) (by first | assumption | simp_all)) (Reads.get (Reads.old hd)) rfl rfl (fun x10 hx10 => ⟨(List.Sublist.refl _), ?_⟩))
            refine ExD.cmp_eql (i := 11) rfl (by kernel_rfl) rfl rfl rfl ((List.Sublist.refl _)) rfl rfl rfl (fun h11 => ?_) (fun h11 => ?_)
            · refine ExD.take (i := 12) rfl (by kernel_rfl) (pureVal_ok rfl) ((List.Sublist.refl _)) rfl rfl rfl ?_
              refine ExD.take (i := 13) rfl (by kernel_rfl) (pureVal_ok rfl) ((List.Sublist.refl _)) rfl rfl rfl ?_
              refine ExD.done (by kernel_rfl) ?_
              refine Ex.ret ?_
              refine RetQ.mk () rfl (.tmp rfl .nil) (tB (by unfold validDev VDev.v; first | exact dec_f (by rintro ⟨q1, q2, q3, q4, q5⟩; omega) | exact dec_f (by rintro ⟨q1, q2, q3, q4, q5⟩; simp_all; done) | exact dec_f (by rintro ⟨q1, q2, q3, q4, q5⟩; simp_all; omega) | exact dec_t ⟨by simp_all, by simp_all, by omega, by omega, by simp_all⟩)) [] (rfl) rfl (trivial)
            · refine ExD.take (i := 12) rfl (by kernel_rfl) (pureVal_ok rfl) ((List.Sublist.refl _)) rfl rfl rfl ?_
              refine ExD.take (i := 13) rfl (by kernel_rfl) (pureVal_ok rfl) ((List.Sublist.refl _)) rfl rfl rfl ?_
              refine ExD.done (by kernel_rfl) ?_
              refine Ex.ret ?_
              refine RetQ.mk () rfl (.tmp rfl .nil) (tB (by unfold validDev VDev.v; first | exact dec_f (by rintro ⟨q1, q2, q3, q4, q5⟩; omega) | exact dec_f (by rintro ⟨q1, q2, q3, q4, q5⟩; simp_all; done) | exact dec_f (by rintro ⟨q1, q2, q3, q4, q5⟩; simp_all; omega) | exact dec_t ⟨by simp_all, by simp_all, by omega, by omega, by simp_all⟩)) [] (rfl) rfl (trivial)
      · refine ExL.pures 8 rfl ?_
        refine ExL.nil ?_
        refine Ex.cond_f rfl ?_
        refine Ex.skip ?_
        refine Ex.drawSeqM rfl ?_
        refine ExD.take (i := 0) rfl (by kernel_rfl) (pureVal_ok rfl) ((List.Sublist.refl _)) rfl rfl rfl ?_
        refine ExD.take (i := 1) rfl (by kernel_rfl) (fr_load rfl rfl rfl rfl (CellO.blk (i := 0) rfl rfl)) ((List.Sublist.refl _)) rfl rfl rfl ?_
        refine ExD.take (i := 2) rfl (by kernel_rfl) (pureVal_ok rfl) ((List.Sublist.refl _)) rfl rfl rfl ?_
        refine ExD.take (i := 3) rfl (by kernel_rfl) (pureVal_ok rfl) ((List.Sublist.refl _)) rfl rfl rfl ?_
        refine ExD.bool (d := 29) rfl (fun hb12 => ?_) (fun hb12 => ?_)
        · replace hb12 := nb_t hb12
          refine ExD.pass (i := 4) rfl (by kernel_rfl) ((List.Sublist.refl _)) rfl rfl rfl ?_
          refine ExD.pass (i := 5) rfl (by kernel_rfl) ((List.Sublist.refl _)) rfl rfl rfl ?_
          refine ExD.pass (i := 6) rfl (by kernel_rfl) ((List.Sublist.refl _)) rfl rfl rfl ?_
          refine ExD.pass (i := 7) rfl (by kernel_rfl) ((List.Sublist.refl _)) rfl rfl rfl ?_
          refine ExD.pass (i := 8) rfl (by kernel_rfl) ((List.Sublist.refl _)) rfl rfl rfl ?_
          refine ExD.pass (i := 9) rfl (by kernel_rfl) ((List.Sublist.refl _)) rfl rfl rfl ?_
          refine ExD.pass (i := 10) rfl (by kernel_rfl) ((List.Sublist.refl _)) rfl rfl rfl ?_
          refine ExD.pass (i := 11) rfl (by kernel_rfl) ((List.Sublist.refl _)) rfl rfl rfl ?_
          refine ExD.take (i := 12) rfl (by kernel_rfl) (pureVal_ok rfl) ((List.Sublist.refl _)) rfl rfl rfl ?_
          refine ExD.take (i := 13) rfl (by kernel_rfl) (pureVal_ok rfl) ((List.Sublist.refl _)) rfl rfl rfl ?_
          refine ExD.done (by kernel_rfl) ?_
          refine Ex.ret ?_
          refine RetQ.mk () rfl (.tmp rfl .nil) (tB (by unfold validDev VDev.v; first | exact dec_f (by rintro ⟨q1, q2, q3, q4, q5⟩; omega) | exact dec_f (by rintro ⟨q1, q2, q3, q4, q5⟩; simp_all; done) | exact dec_f (by rintro ⟨q1, q2, q3, q4, q5⟩; simp_all; omega) | exact dec_t ⟨by simp_all, by simp_all, by omega, by omega, by simp_all⟩)) [] (rfl) rfl (trivial)
        · replace hb12 := nb_f hb12
          refine ExD.take (i := 4) rfl (by kernel_rfl) (pureVal_ok rfl) ((List.Sublist.refl _)) rfl rfl rfl ?_
          refine ExD.take (i := 5) rfl (by kernel_rfl) (fr_load rfl rfl rfl rfl (CellO.blk (i := 0) rfl rfl)) ((List.Sublist.refl _)) rfl rfl rfl ?_
          refine ExD.take (i := 6) rfl (by kernel_rfl) (pureVal_ok rfl) ((List.Sublist.refl _)) rfl rfl rfl ?_
          refine ExD.take (i := 7) rfl (by kernel_rfl) (fr_load rfl rfl rfl rfl (CellO.blk (i := 0) rfl rfl)) ((List.Sublist.refl _)) rfl rfl rfl ?_
          refine ExD.take (i := 8) rfl (by kernel_rfl) (pureVal_ok rfl) ((List.Sublist.refl _)) rfl rfl rfl ?_
          refine ExD.take (i := 9) rfl (by kernel_rfl) (fr_loadN rfl rfl rfl rfl rfl (SegO.part (i := 0) 8 rfl)) ((List.Sublist.refl _)) rfl rfl rfl ?_
          refine ExD.op (i := 10) rfl (by kernel_rfl) rfl (op_ret rfl rfl rfl (c_value d.stack (by first | assumption | simp_all) _ _ d.shows (by assumption) (by first | assumption | simp_all)) (Reads.get (Reads.old hd)) rfl rfl (fun x13 hx13 => ⟨(List.Sublist.refl _), ?_⟩))
          refine ExD.cmp_eql (i := 11) rfl (by kernel_rfl) rfl rfl rfl ((List.Sublist.refl _)) rfl rfl rfl (fun h14 => ?_) (fun h14 => ?_)
          · refine ExD.take (i := 12) rfl (by kernel_rfl) (pureVal_ok rfl) ((List.Sublist.refl _)) rfl rfl rfl ?_
            refine ExD.take (i := 13) rfl (by kernel_rfl) (pureVal_ok rfl) ((List.Sublist.refl _)) rfl rfl rfl ?_
            refine ExD.done (by kernel_rfl) ?_
            refine Ex.ret ?_
            refine RetQ.mk () rfl (.tmp rfl .nil) (tB (by unfold validDev VDev.v; first | exact dec_f (by rintro ⟨q1, q2, q3, q4, q5⟩; omega) | exact dec_f (by rintro ⟨q1, q2, q3, q4, q5⟩; simp_all; done) | exact dec_f (by rintro ⟨q1, q2, q3, q4, q5⟩; simp_all; omega) | exact dec_t ⟨by simp_all, by simp_all, by omega, by omega, by simp_all⟩)) [] (rfl) rfl (trivial)
          · refine ExD.take (i := 12) rfl (by kernel_rfl) (pureVal_ok rfl) ((List.Sublist.refl _)) rfl rfl rfl ?_
            refine ExD.take (i := 13) rfl (by kernel_rfl) (pureVal_ok rfl) ((List.Sublist.refl _)) rfl rfl rfl ?_
            refine ExD.done (by kernel_rfl) ?_
            refine Ex.ret ?_
            refine RetQ.mk () rfl (.tmp rfl .nil) (tB (by unfold validDev VDev.v; first | exact dec_f (by rintro ⟨q1, q2, q3, q4, q5⟩; omega) | exact dec_f (by rintro ⟨q1, q2, q3, q4, q5⟩; simp_all; done) | exact dec_f (by rintro ⟨q1, q2, q3, q4, q5⟩; simp_all; omega) | exact dec_t ⟨by simp_all, by simp_all, by omega, by omega, by simp_all⟩)) [] (rfl) rfl (trivial)
end Go.Proofs.YthabjnhfhmbamaaGreatDoor

/- What these functions of the program hand back, each proved by walking its operations. -/
set_option linter.unusedVariables false
set_option linter.unusedSimpArgs false
set_option maxRecDepth 4000
namespace Go.Proofs.YthabjnhfhmbamaaGreatDoor
open Go Go.Sx Go.RowKit Go.W Go.Proofs
attribute [local irreducible] Ex ExL ExD Op1 Free RetQ MutQ Reads CellO SegO LoadsAs
theorem e_56 : Enters Tryz.prog 56 := Enters.of Tryz.func56 rfl
theorem c_until (d : VDev) (hk : OkDev d) (hv : validDev d = true) (Ad : Option Addr) (cd : Nat) (b : Nat) (st : Int) (hst : st = 1 ∨ st = -1) : Ret Tryz.prog 56 [.pointer (some ⟨b, 0, none⟩), .int .i64 st] (fun w => Rd w (some ⟨b, 0, none⟩) (encV Ad cd d) ∧ Rd w Ad (d.stack.flatMap (eI .u8))) (fun x : Unit => .int .i64 (untilV d st)) (fun x => []) (fun x => True) := by
  refine Ret.of e_56 Tryz.func56 rfl Tryz.ntmps56 rfl rfl (fun w hpre => ?_)
  have hp := hpre.1.base
  have hd := hpre.2.base
  obtain ⟨hl, hu, ha, hpp, htt⟩ := hk
  have hO := devOk ha hv
  have hvs : validStack d.stack = true := by unfold validDev at hv; rw [decide_eq_true_iff] at hv; exact hv.1
  have hvd := hO.vd
  have hm0 : maxLen = 9223372036854775807 := rfl
  have hz := sizeS hO
  have hle := hO.stk.le
  have hps := hO.stk.pos
  have hlt : 0 ≤ val d.stack d.shows.l ∧ val d.stack d.shows.l < prod d.stack := hO.v_lt
  have hpr := hO.preset
  have htk := hO.tick
  have hm1 : -1000000000001 ≤ st * (d.preset - val d.stack d.shows.l) ∧ st * (d.preset - val d.stack d.shows.l) ≤ 1000000000001 := by rcases hst with rfl | rfl <;> omega
  have hs2 := size_two hO.stk
  refine Ex.regSeq (ExL.pures 1 rfl ?_)
  refine ExL.nil ?_
  refine Ex.drawSeqM rfl ?_
  refine ExD.take (i := 0) rfl (by kernel_rfl) (pureVal_ok rfl) ((List.Sublist.refl _)) rfl rfl rfl ?_
  refine ExD.take (i := 1) rfl (by kernel_rfl) (pureVal_ok rfl) ((List.Sublist.refl _)) rfl rfl rfl ?_
  refine ExD.take (i := 2) rfl (by kernel_rfl) (pureVal_ok rfl) ((List.Sublist.refl _)) rfl rfl rfl ?_
  refine ExD.take (i := 3) rfl (by kernel_rfl) (pureVal_ok rfl) ((List.Sublist.refl _)) rfl rfl rfl ?_
  refine ExD.take (i := 4) rfl (by kernel_rfl) (fr_load rfl rfl rfl rfl (CellO.at 9 (Reads.old hp) rfl)) ((List.Sublist.refl _)) rfl rfl rfl ?_
  refine ExD.take (i := 5) rfl (by kernel_rfl) (pureVal_ok rfl) ((List.Sublist.refl _)) rfl rfl rfl ?_
  refine ExD.take (i := 6) rfl (by kernel_rfl) (pureVal_ok rfl) ((List.Sublist.refl _)) rfl rfl rfl ?_
  refine ExD.take (i := 7) rfl (by kernel_rfl) (pureVal_ok rfl) ((List.Sublist.refl _)) rfl rfl rfl ?_
  refine ExD.take (i := 8) rfl (by kernel_rfl) (fr_load rfl rfl rfl rfl (CellO.at 0 (Reads.old hp) rfl)) ((List.Sublist.refl _)) rfl rfl rfl ?_
  refine ExD.take (i := 9) rfl (by kernel_rfl) (pureVal_ok rfl) ((List.Sublist.refl _)) rfl rfl rfl ?_
  refine ExD.take (i := 10) rfl (by kernel_rfl) (pureVal_ok rfl) ((List.Sublist.refl _)) rfl rfl rfl ?_
  refine ExD.take (i := 11) rfl (by kernel_rfl) (pureVal_ok rfl) ((List.Sublist.refl _)) rfl rfl rfl ?_
  refine ExD.take (i := 12) rfl (by kernel_rfl) (fr_loadN rfl rfl rfl rfl rfl (SegO.at 1 8 (Reads.old hp) rfl)) ((List.Sublist.refl _)) rfl rfl rfl ?_
  refine ExD.take (i := 16) rfl (by kernel_rfl) (pureVal_ok rfl) ((List.Sublist.refl _)) rfl rfl rfl ?_
  refine ExD.take (i := 17) rfl (by kernel_rfl) (pureVal_ok rfl) ((List.Sublist.refl _)) rfl rfl rfl ?_
  refine ExD.take (i := 18) rfl (by kernel_rfl) (pureVal_ok rfl) ((List.Sublist.refl _)) rfl rfl rfl ?_
  refine ExD.take (i := 19) rfl (by kernel_rfl) (fr_load rfl rfl rfl rfl (CellO.at 0 (Reads.old hp) rfl)) ((List.Sublist.refl _)) rfl rfl rfl ?_
  refine ExD.op (i := 13) rfl (by kernel_rfl) rfl (op_ret rfl rfl rfl (c_value d.stack (by first | assumption | simp_all) _ _ d.shows (by assumption) (by first | assumption | simp_all)) (Reads.get (Reads.old hd)) rfl rfl (fun x1 hx1 => ⟨(List.Sublist.refl _), ?_⟩))
  refine ExD.take (i := 14) rfl (by kernel_rfl) (by first | exact fr_sub64 rfl rfl rfl (by omega) | exact fr_sub rfl rfl rfl) ((List.Sublist.refl _)) rfl rfl rfl ?_
  refine ExD.take (i := 15) rfl (by kernel_rfl) (by first | exact fr_mul64 rfl rfl rfl (by omega) | exact fr_mul rfl rfl rfl) ((List.Sublist.refl _)) rfl rfl rfl ?_
  refine ExD.op (i := 20) rfl (by kernel_rfl) rfl (op_ret rfl rfl rfl (c_size _ (by assumption) _ _ (by first | assumption | omega | (unfold maxLen; omega))) (Reads.get (Reads.old hd)) rfl rfl (fun x2 hx2 => ⟨(List.Sublist.refl _), ?_⟩))
  refine ExD.op (i := 21) rfl (by kernel_rfl) rfl (op_ret rfl rfl rfl (c_wrapped _ _ (by omega) (by omega)) (fun _ _ => trivial) rfl rfl (fun x3 hx3 => ⟨(List.Sublist.refl _), ?_⟩))
  refine ExD.take (i := 22) rfl (by kernel_rfl) (pureVal_ok rfl) ((List.Sublist.refl _)) rfl rfl rfl ?_
  refine ExD.take (i := 23) rfl (by kernel_rfl) (pureVal_ok rfl) ((List.Sublist.refl _)) rfl rfl rfl ?_
  refine ExD.take (i := 24) rfl (by kernel_rfl) (pureVal_ok rfl) ((List.Sublist.refl _)) rfl rfl rfl ?_
  refine ExD.take (i := 25) rfl (by kernel_rfl) (pureVal_ok rfl) ((List.Sublist.refl _)) rfl rfl rfl ?_
  refine ExD.take (i := 26) rfl (by kernel_rfl) (pureVal_ok rfl) ((List.Sublist.refl _)) rfl rfl rfl ?_
  refine ExD.done (by kernel_rfl) ?_
  refine Ex.seq ?_
  refine Ex.regSeq (ExL.pures 1 rfl ?_)
  refine ExL.eql rfl rfl rfl rfl rfl rfl (fun h4 => ?_) (fun h4 => ?_)
  · refine ExL.nil ?_
    refine Ex.cond_t rfl ?_
    refine Ex.regSeq (ExL.pures 3 rfl ?_)
    refine ExL.free (fr_load rfl rfl rfl rfl (CellO.at 0 (Reads.old hp) rfl)) rfl rfl rfl ?_
    refine ExL.op rfl (op_ret rfl rfl rfl (c_size _ (by assumption) _ _ (by first | assumption | omega | (unfold maxLen; omega))) (Reads.get (Reads.old hd)) rfl rfl (fun x5 hx5 => ?_))
    refine ExL.pures 1 rfl ?_
    refine ExL.nil ?_
    refine Ex.ret ?_
    refine RetQ.mk () rfl (.tmp rfl .nil) (tI (by unfold untilV until1 VDev.v; rw [← hz]; first | rw [if_pos (by assumption)] | rw [if_neg (by assumption)])) [] (rfl) rfl (trivial)
  · refine ExL.nil ?_
    refine Ex.cond_f rfl ?_
    refine Ex.skip ?_
    refine Ex.regSeq (ExL.pures 2 rfl ?_)
    refine ExL.nil ?_
    refine Ex.ret ?_
    refine RetQ.mk () rfl (.tmp rfl .nil) (tI (by unfold untilV until1 VDev.v; rw [← hz]; first | rw [if_pos (by assumption)] | rw [if_neg (by assumption)])) [] (rfl) rfl (trivial)
theorem e_99 : Enters Tryz.prog 99 := Enters.of Tryz.func99 rfl
theorem c_l07Until (d : VDev) (hk : OkDev d) (hv : validDev d = true) (Ad : Option Addr) (cd : Nat) (b : Nat) (back : Bool) : Ret Tryz.prog 99 [.pointer (some ⟨b, 0, none⟩), .bool back] (fun w => Rd w (some ⟨b, 0, none⟩) (encV Ad cd d) ∧ Rd w Ad (d.stack.flatMap (eI .u8))) (fun x : Unit => .int .i64 (if d.preset < 0 then -1 else untilV d (bif back then -1 else 1))) (fun x => []) (fun x => True) := by
  refine Ret.of e_99 Tryz.func99 rfl Tryz.ntmps99 rfl rfl (fun w hpre => ?_)
  have hp := hpre.1.base
  have hd := hpre.2.base
  obtain ⟨hl, hu, ha, hpp, htt⟩ := hk
  have hO := devOk ha hv
  have hvs : validStack d.stack = true := by unfold validDev at hv; rw [decide_eq_true_iff] at hv; exact hv.1
  have hvd := hO.vd
  have hm0 : maxLen = 9223372036854775807 := rfl
  have hz := sizeS hO
  have hle := hO.stk.le
  have hps := hO.stk.pos
  have hlt : 0 ≤ val d.stack d.shows.l ∧ val d.stack d.shows.l < prod d.stack := hO.v_lt
  have hpr := hO.preset
  have htk := hO.tick
  have hs2 := size_two hO.stk
  refine Ex.regSeq (ExL.pures 1 rfl ?_)
  refine ExL.nil ?_
  refine Ex.seq ?_
  refine Ex.regSeq (ExL.pures 3 rfl ?_)
  refine ExL.free (fr_load rfl rfl rfl rfl (CellO.at 9 (Reads.old hp) rfl)) rfl rfl rfl ?_
  refine ExL.lss rfl rfl rfl rfl rfl rfl (fun h1 => ?_) (fun h1 => ?_)
  · refine ExL.nil ?_
    refine Ex.cond_t rfl ?_
    refine Ex.regSeq (ExL.pures 1 rfl ?_)
    refine ExL.nil ?_
    refine Ex.ret ?_
    refine RetQ.mk () rfl (.tmp rfl .nil) (tI (by first | rw [if_pos (by assumption)] | (rw [if_neg (by assumption)]; subst_vars; (first | rw [un_t] | rw [un_f]); first | (rw [until_small (by omega) (by omega) (by omega)]; omega) | rw [until_big (by omega) (by omega) (by omega)]))) [] (rfl) rfl (trivial)
  · refine ExL.nil ?_
    refine Ex.cond_f rfl ?_
    refine Ex.skip ?_
    refine Ex.drawSeqM rfl ?_
    refine ExD.take (i := 0) rfl (by kernel_rfl) (pureVal_ok rfl) ((List.Sublist.refl _)) rfl rfl rfl ?_
    refine ExD.take (i := 1) rfl (by kernel_rfl) (pureVal_ok rfl) ((List.Sublist.refl _)) rfl rfl rfl ?_
    refine ExD.take (i := 2) rfl (by kernel_rfl) (pureVal_ok rfl) ((List.Sublist.refl _)) rfl rfl rfl ?_
    refine ExD.take (i := 3) rfl (by kernel_rfl) (fr_load rfl rfl rfl rfl (CellO.at 9 (Reads.old hp) rfl)) ((List.Sublist.refl _)) rfl rfl rfl ?_
    refine ExD.take (i := 4) rfl (by kernel_rfl) (pureVal_ok rfl) ((List.Sublist.refl _)) rfl rfl rfl ?_
    refine ExD.take (i := 5) rfl (by kernel_rfl) (pureVal_ok rfl) ((List.Sublist.refl _)) rfl rfl rfl ?_
    refine ExD.take (i := 6) rfl (by kernel_rfl) (pureVal_ok rfl) ((List.Sublist.refl _)) rfl rfl rfl ?_
    refine ExD.take (i := 7) rfl (by kernel_rfl) (fr_load rfl rfl rfl rfl (CellO.at 0 (Reads.old hp) rfl)) ((List.Sublist.refl _)) rfl rfl rfl ?_
    refine ExD.take (i := 8) rfl (by kernel_rfl) (pureVal_ok rfl) ((List.Sublist.refl _)) rfl rfl rfl ?_
    refine ExD.take (i := 9) rfl (by kernel_rfl) (pureVal_ok rfl) ((List.Sublist.refl _)) rfl rfl rfl ?_
    refine ExD.take (i := 10) rfl (by kernel_rfl) (pureVal_ok rfl) ((List.Sublist.refl _)) rfl rfl rfl ?_
    refine ExD.take (i := 11) rfl (by kernel_rfl) (fr_loadN rfl rfl rfl rfl rfl (SegO.at 1 8 (Reads.old hp) rfl)) ((List.Sublist.refl _)) rfl rfl rfl ?_
    refine ExD.op (i := 12) rfl (by kernel_rfl) rfl (op_ret rfl rfl rfl (c_l01Value d.stack (by first | assumption | simp_all) _ _ d.shows (by assumption) (by first | assumption | simp_all)) (Reads.get (Reads.old hd)) rfl rfl (fun x2 hx2 => ⟨(List.Sublist.refl _), ?_⟩))
    refine ExD.take (i := 13) rfl (by kernel_rfl) (by first | exact fr_sub64 rfl rfl rfl (by omega) | exact fr_sub rfl rfl rfl) ((List.Sublist.refl _)) rfl rfl rfl ?_
    refine ExD.take (i := 14) rfl (by kernel_rfl) (pureVal_ok rfl) ((List.Sublist.refl _)) rfl rfl rfl ?_
    refine ExD.done (by kernel_rfl) ?_
    refine Ex.seq ?_
    refine Ex.regSeq (ExL.pures 1 rfl ?_)
    refine ExL.nil ?_
    refine Ex.cond rfl (fun hb3 => ?_) (fun hb3 => ?_)
    · refine Ex.region (ExL.pures 1 rfl ?_)
      refine ExL.free (by first | exact fr_neg64 rfl rfl (by omega) | exact fr_neg rfl rfl) rfl rfl rfl ?_
      refine ExL.pures 1 rfl ?_
      refine ExL.nil ?_
      refine Ex.seq ?_
      refine Ex.regSeq (ExL.pures 1 rfl ?_)
      refine ExL.leq rfl rfl rfl rfl rfl rfl (fun h4 => ?_) (fun h4 => ?_)
      · refine ExL.nil ?_
        refine Ex.cond_t rfl ?_
        refine Ex.region (ExL.pures 4 rfl ?_)
        refine ExL.free (fr_load rfl rfl rfl rfl (CellO.at 0 (Reads.old hp) rfl)) rfl rfl rfl ?_
        refine ExL.op rfl (op_ret rfl rfl rfl (c_l01Size _ (by assumption) _ _ (by first | assumption | omega | (unfold maxLen; omega))) (Reads.get (Reads.old hd)) rfl rfl (fun x5 hx5 => ?_))
        refine ExL.free (by first | exact fr_add64 rfl rfl rfl (by omega) | exact fr_add rfl rfl rfl) rfl rfl rfl ?_
        refine ExL.pures 1 rfl ?_
        refine ExL.nil ?_
        refine Ex.regSeq (ExL.pures 2 rfl ?_)
        refine ExL.nil ?_
        refine Ex.ret ?_
        refine RetQ.mk () rfl (.tmp rfl .nil) (tI (by first | rw [if_pos (by assumption)] | (rw [if_neg (by assumption)]; subst_vars; (first | rw [un_t] | rw [un_f]); first | (rw [until_small (by omega) (by omega) (by omega)]; omega) | rw [until_big (by omega) (by omega) (by omega)]))) [] (rfl) rfl (trivial)
      · refine ExL.nil ?_
        refine Ex.cond_f rfl ?_
        refine Ex.skip ?_
        refine Ex.regSeq (ExL.pures 2 rfl ?_)
        refine ExL.nil ?_
        refine Ex.ret ?_
        refine RetQ.mk () rfl (.tmp rfl .nil) (tI (by first | rw [if_pos (by assumption)] | (rw [if_neg (by assumption)]; subst_vars; (first | rw [un_t] | rw [un_f]); first | (rw [until_small (by omega) (by omega) (by omega)]; omega) | rw [until_big (by omega) (by omega) (by omega)]))) [] (rfl) rfl (trivial)
    · refine Ex.skip ?_
      refine Ex.seq ?_
      refine Ex.regSeq (ExL.pures 1 rfl ?_)
      refine ExL.leq rfl rfl rfl rfl rfl rfl (fun h6 => ?_) (fun h6 => ?_)
      · refine ExL.nil ?_
        refine Ex.cond_t rfl ?_
        refine Ex.region (ExL.pures 4 rfl ?_)
        refine ExL.free (fr_load rfl rfl rfl rfl (CellO.at 0 (Reads.old hp) rfl)) rfl rfl rfl ?_
        refine ExL.op rfl (op_ret rfl rfl rfl (c_l01Size _ (by assumption) _ _ (by first | assumption | omega | (unfold maxLen; omega))) (Reads.get (Reads.old hd)) rfl rfl (fun x7 hx7 => ?_))
        refine ExL.free (by first | exact fr_add64 rfl rfl rfl (by omega) | exact fr_add rfl rfl rfl) rfl rfl rfl ?_
        refine ExL.pures 1 rfl ?_
        refine ExL.nil ?_
        refine Ex.regSeq (ExL.pures 2 rfl ?_)
        refine ExL.nil ?_
        refine Ex.ret ?_
        refine RetQ.mk () rfl (.tmp rfl .nil) (tI (by first | rw [if_pos (by assumption)] | (rw [if_neg (by assumption)]; subst_vars; (first | rw [un_t] | rw [un_f]); first | (rw [until_small (by omega) (by omega) (by omega)]; omega) | rw [until_big (by omega) (by omega) (by omega)]))) [] (rfl) rfl (trivial)
      · refine ExL.nil ?_
        refine Ex.cond_f rfl ?_
        refine Ex.skip ?_
        refine Ex.regSeq (ExL.pures 2 rfl ?_)
        refine ExL.nil ?_
        refine Ex.ret ?_
        refine RetQ.mk () rfl (.tmp rfl .nil) (tI (by first | rw [if_pos (by assumption)] | (rw [if_neg (by assumption)]; subst_vars; (first | rw [un_t] | rw [un_f]); first | (rw [until_small (by omega) (by omega) (by omega)]; omega) | rw [until_big (by omega) (by omega) (by omega)]))) [] (rfl) rfl (trivial)
theorem c_lu_f (d : VDev) (hk : OkDev d) (hv : validDev d = true) (Ad : Option Addr) (cd : Nat) (b : Nat) : Ret Tryz.prog 99 [.pointer (some ⟨b, 0, none⟩), .bool false] (fun w => Rd w (some ⟨b, 0, none⟩) (encV Ad cd d) ∧ Rd w Ad (d.stack.flatMap (eI .u8))) (fun x : Unit => .int .i64 (untilW d (1))) (fun x => []) (fun x => True) := c_l07Until d hk hv Ad cd b false
theorem c_lu_t (d : VDev) (hk : OkDev d) (hv : validDev d = true) (Ad : Option Addr) (cd : Nat) (b : Nat) : Ret Tryz.prog 99 [.pointer (some ⟨b, 0, none⟩), .bool true] (fun w => Rd w (some ⟨b, 0, none⟩) (encV Ad cd d) ∧ Rd w Ad (d.stack.flatMap (eI .u8))) (fun x : Unit => .int .i64 (untilW d (-1))) (fun x => []) (fun x => True) := c_l07Until d hk hv Ad cd b true
theorem e_22 : Enters Tryz.prog 22 := Enters.of Tryz.func22 rfl
theorem c_iPulsesUntilStop (d : VDev) (hk : OkDev d) (Ad : Option Addr) (cd : Nat) : Ret Tryz.prog 22 [.agg (encV Ad cd d).toArray] (fun w => Rd w Ad (d.stack.flatMap (eI .u8))) (fun x : Unit => .tuple #[.int .i64 (pulsesV d).1, .int .i64 (pulsesV d).2]) (fun x => []) (fun x => True) := by
  refine Ret.of e_22 Tryz.func22 rfl Tryz.ntmps22 rfl rfl (fun w hpre => ?_)
  have hd := hpre.base
  have hk2 := hk
  obtain ⟨hl, hu, ha, hpp, htt⟩ := hk2
  have hm0 : maxLen = 9223372036854775807 := rfl
  refine Ex.regSeq (ExL.pures 0 rfl ?_)
  refine ExL.op rfl (op_box rfl rfl rfl rfl rfl (fun b1 => ?_))
  refine ExL.pures 2 rfl ?_
  refine ExL.nil ?_
  refine Ex.seq ?_
  refine Ex.block ?_
  refine Ex.regSeq (ExL.pures 0 rfl ?_)
  refine ExL.free (fr_loadN rfl rfl rfl rfl rfl (SegO.whole (i := 0) rfl)) rfl rfl rfl ?_
  refine ExL.op rfl (op_ret rfl rfl rfl (c_iValidDevice d (by assumption) _ _) (Reads.get (Reads.old hd)) rfl rfl (fun x2 hx2 => ?_))
  refine ExL.pures 2 rfl ?_
  refine ExL.nil ?_
  refine Ex.cond rfl (fun hb3 => ?_) (fun hb3 => ?_)
  · replace hb3 := nb_t hb3
    refine Ex.regSeq (ExL.pures 2 rfl ?_)
    refine ExL.nil ?_
    refine Ex.ret ?_
    refine RetQ.mk () rfl (.tmp rfl (.tmp rfl .nil)) (t2 (vI (by first | (rw [uw_pos (d := d) (st := 1) (by omega), pu_on (by assumption) (by omega) (by assumption)]) | rw [pu_bad (by assumption)] | rw [pu_neg ha (by assumption) (by omega)] | rw [pu_stop (by assumption) (by omega) (by assumption)] | rw [pu_on (by assumption) (by omega) (by assumption)])) (vI (by first | (rw [uw_pos (d := d) (st := 1) (by omega), pu_on (by assumption) (by omega) (by assumption)]) | rw [pu_bad (by assumption)] | rw [pu_neg ha (by assumption) (by omega)] | rw [pu_stop (by assumption) (by omega) (by assumption)] | rw [pu_on (by assumption) (by omega) (by assumption)]))) [] (rfl) rfl (trivial)
  · replace hb3 := nb_f hb3
    refine Ex.regSeq (ExL.pures 1 rfl ?_)
    refine ExL.free (fr_load rfl rfl rfl rfl (CellO.blk (i := 0) rfl rfl)) rfl rfl rfl ?_
    refine ExL.eql rfl rfl rfl rfl rfl rfl (fun h4 => ?_) (fun h4 => ?_)
    · refine ExL.pures 1 rfl ?_
      refine ExL.nil ?_
      refine Ex.cond_t rfl ?_
      refine Ex.regSeq (ExL.pures 2 rfl ?_)
      refine ExL.nil ?_
      refine Ex.ret ?_
      refine RetQ.mk () rfl (.tmp rfl (.tmp rfl .nil)) (t2 (vI (by first | (rw [uw_pos (d := d) (st := 1) (by omega), pu_on (by assumption) (by omega) (by assumption)]) | rw [pu_bad (by assumption)] | rw [pu_neg ha (by assumption) (by omega)] | rw [pu_stop (by assumption) (by omega) (by assumption)] | rw [pu_on (by assumption) (by omega) (by assumption)])) (vI (by first | (rw [uw_pos (d := d) (st := 1) (by omega), pu_on (by assumption) (by omega) (by assumption)]) | rw [pu_bad (by assumption)] | rw [pu_neg ha (by assumption) (by omega)] | rw [pu_stop (by assumption) (by omega) (by assumption)] | rw [pu_on (by assumption) (by omega) (by assumption)]))) [] (rfl) rfl (trivial)
    · refine ExL.pures 1 rfl ?_
      refine ExL.nil ?_
      refine Ex.cond_f rfl ?_
      refine Ex.regSeq (ExL.pures 1 rfl ?_)
      refine ExL.free (fr_load rfl rfl rfl rfl (CellO.blk (i := 0) rfl rfl)) rfl rfl rfl ?_
      refine ExL.pures 1 rfl ?_
      refine ExL.nil ?_
      refine Ex.cond rfl (fun hb5 => ?_) (fun hb5 => ?_)
      · refine Ex.regSeq (ExL.pures 2 rfl ?_)
        refine ExL.nil ?_
        refine Ex.ret ?_
        refine RetQ.mk () rfl (.tmp rfl (.tmp rfl .nil)) (t2 (vI (by first | (rw [uw_pos (d := d) (st := 1) (by omega), pu_on (by assumption) (by omega) (by assumption)]) | rw [pu_bad (by assumption)] | rw [pu_neg ha (by assumption) (by omega)] | rw [pu_stop (by assumption) (by omega) (by assumption)] | rw [pu_on (by assumption) (by omega) (by assumption)])) (vI (by first | (rw [uw_pos (d := d) (st := 1) (by omega), pu_on (by assumption) (by omega) (by assumption)]) | rw [pu_bad (by assumption)] | rw [pu_neg ha (by assumption) (by omega)] | rw [pu_stop (by assumption) (by omega) (by assumption)] | rw [pu_on (by assumption) (by omega) (by assumption)]))) [] (rfl) rfl (trivial)
      · refine Ex.skip ?_
        refine Ex.regSeq (ExL.pures 0 rfl ?_)
        refine ExL.op rfl (op_ret rfl rfl rfl (c_until d (by first | assumption | exact ⟨by assumption, by assumption, by assumption, by assumption, by assumption⟩) (by assumption) _ _ _ (1) (by first | assumption | decide | omega)) (fun w hw => ⟨Reads.get (Reads.blk (i := 0) rfl) w hw, Reads.get (Reads.old hd) w hw⟩) rfl rfl (fun x6 hx6 => ?_))
        refine ExL.pures 2 rfl ?_
        refine ExL.nil ?_
        refine Ex.ret ?_
        refine RetQ.mk () rfl (.tmp rfl (.tmp rfl .nil)) (t2 (vI (by first | (rw [uw_pos (d := d) (st := 1) (by omega), pu_on (by assumption) (by omega) (by assumption)]) | rw [pu_bad (by assumption)] | rw [pu_neg ha (by assumption) (by omega)] | rw [pu_stop (by assumption) (by omega) (by assumption)] | rw [pu_on (by assumption) (by omega) (by assumption)])) (vI (by first | (rw [uw_pos (d := d) (st := 1) (by omega), pu_on (by assumption) (by omega) (by assumption)]) | rw [pu_bad (by assumption)] | rw [pu_neg ha (by assumption) (by omega)] | rw [pu_stop (by assumption) (by omega) (by assumption)] | rw [pu_on (by assumption) (by omega) (by assumption)]))) [] (rfl) rfl (trivial)
theorem e_80 : Enters Tryz.prog 80 := Enters.of Tryz.func80 rfl
theorem c_pulse (d : VDev) (hk : OkDev d) (hv : validDev d = true) (Ad : Option Addr) (cd : Nat) (b : Nat) (n st : Int) (hn : 0 ≤ n ∧ n ≤ 1000000000000) (hst : st = 1 ∨ st = -1) : Mut Tryz.prog 80 [.pointer (some ⟨b, 0, none⟩), .int .i64 n, .int .i64 st] [.blk b (encV Ad cd d) 28, .row (.slice Ad d.stack.length cd) 5 1 d.stack.length (d.stack.flatMap (eI .u8))] (fun base w0 F => True) (fun x : Unit => .int .i64 (pulseV d n st).2) (fun x => [.blk b (encV Ad cd (pulseV d n st).1) 28, .row (.slice Ad d.stack.length cd) 5 1 d.stack.length (d.stack.flatMap (eI .u8))]) (fun x => True) := by
  refine Mut.of e_80 Tryz.func80 rfl Tryz.ntmps80 rfl rfl (fun base w0 F hfr => ?_)
  have hkk := hk
  obtain ⟨hl, hu, ha, hpp, htt⟩ := hk
  have hO := devOk ha hv
  have hvs : validStack d.stack = true := by unfold validDev at hv; rw [decide_eq_true_iff] at hv; exact hv.1
  have hvd := hO.vd
  have hm0 : maxLen = 9223372036854775807 := rfl
  have hz := sizeS hO
  have hle := hO.stk.le
  have hps := hO.stk.pos
  have hlt : 0 ≤ val d.stack d.shows.l ∧ val d.stack d.shows.l < prod d.stack := hO.v_lt
  have hpr := hO.preset
  have htk := hO.tick
  have hub := until_bd hO st
  have hst1 : st * (n - (n - untilV d st)) = st * untilV d st := by rw [show n - (n - untilV d st) = untilV d st by omega]
  have hst2 : st * (n - 0) = st * n := by rw [Int.sub_zero]
  have hst3 : -1000000000000 ≤ st * untilV d st ∧ st * untilV d st ≤ 1000000000000 := by rcases hst with rfl | rfl <;> omega
  have hst4 : -1000000000000 ≤ st * n ∧ st * n ≤ 1000000000000 := by rcases hst with rfl | rfl <;> omega
  refine Ex.regSeq (ExL.pures 1 rfl ?_)
  refine ExL.nil ?_
  refine Ex.regSeq (ExL.pures 1 rfl ?_)
  refine ExL.nil ?_
  refine Ex.seq ?_
  refine Ex.block ?_
  refine Ex.regSeq (ExL.pures 3 rfl ?_)
  refine ExL.free (fr_load rfl rfl rfl rfl (CellO.blk (i := 0) rfl rfl)) rfl rfl rfl ?_
  refine ExL.pures 1 rfl ?_
  refine ExL.nil ?_
  refine Ex.cond rfl (fun hb1 => ?_) (fun hb1 => ?_)
  · refine Ex.regSeq (ExL.pures 2 rfl ?_)
    refine ExL.nil ?_
    refine Ex.ret ?_
    refine MutQ.mk () rfl (.tmp rfl .nil) (tI (by first | (rw [pv_stop (by assumption)]; first | done | rfl) | (rw [pv_hit (by assumption) ⟨by omega, by omega⟩]; first | done | rfl) | (rw [pv_on (by assumption) (by omega)]; first | done | rfl))) 2 [0, 1] (by first | (rw [pv_stop (by assumption)]; first | done | rfl) | (rw [pv_hit (by assumption) ⟨by omega, by omega⟩, ← hst1]; first | done | rfl) | (rw [pv_on (by assumption) (by omega), ← hst2]; first | done | rfl)) rfl (trivial)
  · refine Ex.regSeq (ExL.pures 3 rfl ?_)
    refine ExL.free (fr_load rfl rfl rfl rfl (CellO.blk (i := 0) rfl rfl)) rfl rfl rfl ?_
    refine ExL.neq rfl rfl rfl rfl rfl rfl (fun h2 => ?_) (fun h2 => ?_)
    · refine ExL.pures 4 rfl ?_
      refine ExL.op rfl (op_ret rfl rfl rfl (c_until d (by first | assumption | exact ⟨by assumption, by assumption, by assumption, by assumption, by assumption⟩) (by assumption) _ _ _ (st) (by first | assumption | decide | omega)) (fun w hw => ⟨Reads.get (Reads.blk (i := 0) rfl) w hw, Reads.get (Reads.row (i := 1) rfl) w hw⟩) rfl rfl (fun x3 hx3 => ?_))
      refine ExL.geq rfl rfl rfl rfl rfl rfl (fun h4 => ?_) (fun h4 => ?_)
      · refine ExL.pures 2 rfl ?_
        refine ExL.nil ?_
        refine Ex.cond_t rfl ?_
        refine Ex.regSeq (ExL.pures 3 rfl ?_)
        refine ExL.op rfl (op_ret rfl rfl rfl (c_until d (by first | assumption | exact ⟨by assumption, by assumption, by assumption, by assumption, by assumption⟩) (by assumption) _ _ _ (st) (by first | assumption | decide | omega)) (fun w hw => ⟨Reads.get (Reads.blk (i := 0) rfl) w hw, Reads.get (Reads.row (i := 1) rfl) w hw⟩) rfl rfl (fun x5 hx5 => ?_))
        refine ExL.free (by first | exact fr_sub64 rfl rfl rfl (by omega) | exact fr_sub rfl rfl rfl) rfl rfl rfl ?_
        refine ExL.pures 1 rfl ?_
        refine ExL.nil ?_
        refine Ex.region (ExL.pures 3 rfl ?_)
        refine ExL.op rfl (op_storeC (i := 0) rfl rfl rfl rfl rfl rfl rfl rfl rfl rfl ?_)
        refine ExL.nil ?_
        refine Ex.drawSeqI [1] rfl rfl ?_
        refine ExD.take (i := 0) rfl (by kernel_rfl) (pureVal_ok rfl) ((List.Sublist.cons _ (List.Sublist.cons_cons _ (List.nil_sublist _)))) rfl rfl rfl ?_
        refine ExD.take (i := 1) rfl (by kernel_rfl) (pureVal_ok rfl) ((List.Sublist.cons _ (List.Sublist.cons_cons _ (List.nil_sublist _)))) rfl rfl rfl ?_
        refine ExD.take (i := 2) rfl (by kernel_rfl) (pureVal_ok rfl) ((List.Sublist.cons _ (List.Sublist.cons_cons _ (List.nil_sublist _)))) rfl rfl rfl ?_
        refine ExD.take (i := 3) rfl (by kernel_rfl) (pureVal_ok rfl) ((List.Sublist.cons _ (List.Sublist.cons_cons _ (List.nil_sublist _)))) rfl rfl rfl ?_
        refine ExD.take (i := 5) rfl (by kernel_rfl) (pureVal_ok rfl) ((List.Sublist.cons _ (List.Sublist.cons_cons _ (List.nil_sublist _)))) rfl rfl rfl ?_
        refine ExD.take (i := 6) rfl (by kernel_rfl) (pureVal_ok rfl) ((List.Sublist.cons _ (List.Sublist.cons_cons _ (List.nil_sublist _)))) rfl rfl rfl ?_
        refine ExD.take (i := 7) rfl (by kernel_rfl) (pureVal_ok rfl) ((List.Sublist.cons _ (List.Sublist.cons_cons _ (List.nil_sublist _)))) rfl rfl rfl ?_
        refine ExD.take (i := 9) rfl (by kernel_rfl) (pureVal_ok rfl) ((List.Sublist.cons _ (List.Sublist.cons_cons _ (List.nil_sublist _)))) rfl rfl rfl ?_
        refine ExD.take (i := 10) rfl (by kernel_rfl) (pureVal_ok rfl) ((List.Sublist.cons _ (List.Sublist.cons_cons _ (List.nil_sublist _)))) rfl rfl rfl ?_
        refine ExD.take (i := 11) rfl (by kernel_rfl) (pureVal_ok rfl) ((List.Sublist.cons _ (List.Sublist.cons_cons _ (List.nil_sublist _)))) rfl rfl rfl ?_
        refine ExD.take (i := 12) rfl (by kernel_rfl) (by first | exact fr_sub64 rfl rfl rfl (by omega) | exact fr_sub rfl rfl rfl) ((List.Sublist.cons _ (List.Sublist.cons_cons _ (List.nil_sublist _)))) rfl rfl rfl ?_
        refine ExD.take (i := 13) rfl (by kernel_rfl) (by first | exact fr_mul64 rfl rfl rfl (by omega) | exact fr_mul rfl rfl rfl) ((List.Sublist.cons _ (List.Sublist.cons_cons _ (List.nil_sublist _)))) rfl rfl rfl ?_
        refine ExD.two (i := 4) (j := 8) rfl rfl (by kernel_rfl) (by kernel_rfl) (by kernel_rfl) rfl (List.Sublist.cons _ (List.Sublist.cons_cons _ (List.nil_sublist _))) rfl rfl rfl rfl rfl rfl rfl rfl rfl (fr_load rfl rfl rfl rfl (CellO.blk (i := 0) rfl rfl)) (fr_loadN rfl rfl rfl rfl rfl (SegO.part (i := 0) 8 rfl)) (fr_load rfl rfl rfl rfl (CellO.blk (i := 0) rfl rfl)) (fr_loadN rfl rfl rfl rfl rfl (SegO.part (i := 0) 8 rfl)) ?_
        refine ExD.op (i := 14) rfl (by kernel_rfl) rfl (op_ret rfl rfl rfl (c_added d.stack (by first | assumption | simp_all) _ _ d.shows (by assumption) (by first | assumption | simp_all) (by assumption) _ (by omega)) (Reads.get (Reads.row (i := 1) rfl)) rfl rfl (fun x6 hx6 => ⟨(List.Sublist.cons _ (List.Sublist.cons_cons _ (List.nil_sublist _))), ?_⟩))
        refine ExD.take (i := 15) rfl (by kernel_rfl) (pureVal_ok rfl) ((List.Sublist.cons _ (List.Sublist.cons_cons _ (List.nil_sublist _)))) rfl rfl rfl ?_
        refine ExD.take (i := 16) rfl (by kernel_rfl) (pureVal_ok rfl) ((List.Sublist.cons _ (List.Sublist.cons_cons _ (List.nil_sublist _)))) rfl rfl rfl ?_
        refine ExD.take (i := 17) rfl (by kernel_rfl) (pureVal_ok rfl) ((List.Sublist.cons _ (List.Sublist.cons_cons _ (List.nil_sublist _)))) rfl rfl rfl ?_
        refine ExD.take (i := 18) rfl (by kernel_rfl) (pureVal_ok rfl) ((List.Sublist.cons _ (List.Sublist.cons_cons _ (List.nil_sublist _)))) rfl rfl rfl ?_
        refine ExD.take (i := 19) rfl (by kernel_rfl) (pureVal_ok rfl) ((List.Sublist.cons _ (List.Sublist.cons_cons _ (List.nil_sublist _)))) rfl rfl rfl ?_
        refine ExD.op (i := 20) rfl (by kernel_rfl) rfl (op_storeC (i := 0) rfl rfl rfl rfl rfl rfl rfl rfl rfl rfl ⟨(List.Sublist.cons _ (List.Sublist.cons_cons _ (List.nil_sublist _))), ?_⟩)
        refine ExD.done (by kernel_rfl) ?_
        refine Ex.regSeq (ExL.pures 2 rfl ?_)
        refine ExL.nil ?_
        refine Ex.ret ?_
        refine MutQ.mk () rfl (.tmp rfl .nil) (tI (by first | (rw [pv_stop (by assumption)]; first | done | rfl) | (rw [pv_hit (by assumption) ⟨by omega, by omega⟩]; first | done | rfl) | (rw [pv_on (by assumption) (by omega)]; first | done | rfl))) 2 [0, 1] (by first | (rw [pv_stop (by assumption)]; first | done | rfl) | (rw [pv_hit (by assumption) ⟨by omega, by omega⟩, ← hst1]; first | done | rfl) | (rw [pv_on (by assumption) (by omega), ← hst2]; first | done | rfl)) rfl (trivial)
      · refine ExL.pures 2 rfl ?_
        refine ExL.nil ?_
        refine Ex.cond_f rfl ?_
        refine Ex.skip ?_
        refine Ex.drawSeqI [1] rfl rfl ?_
        refine ExD.take (i := 0) rfl (by kernel_rfl) (pureVal_ok rfl) ((List.Sublist.cons _ (List.Sublist.cons_cons _ (List.nil_sublist _)))) rfl rfl rfl ?_
        refine ExD.take (i := 1) rfl (by kernel_rfl) (pureVal_ok rfl) ((List.Sublist.cons _ (List.Sublist.cons_cons _ (List.nil_sublist _)))) rfl rfl rfl ?_
        refine ExD.take (i := 2) rfl (by kernel_rfl) (pureVal_ok rfl) ((List.Sublist.cons _ (List.Sublist.cons_cons _ (List.nil_sublist _)))) rfl rfl rfl ?_
        refine ExD.take (i := 3) rfl (by kernel_rfl) (pureVal_ok rfl) ((List.Sublist.cons _ (List.Sublist.cons_cons _ (List.nil_sublist _)))) rfl rfl rfl ?_
        refine ExD.take (i := 5) rfl (by kernel_rfl) (pureVal_ok rfl) ((List.Sublist.cons _ (List.Sublist.cons_cons _ (List.nil_sublist _)))) rfl rfl rfl ?_
        refine ExD.take (i := 6) rfl (by kernel_rfl) (pureVal_ok rfl) ((List.Sublist.cons _ (List.Sublist.cons_cons _ (List.nil_sublist _)))) rfl rfl rfl ?_
        refine ExD.take (i := 7) rfl (by kernel_rfl) (pureVal_ok rfl) ((List.Sublist.cons _ (List.Sublist.cons_cons _ (List.nil_sublist _)))) rfl rfl rfl ?_
        refine ExD.take (i := 9) rfl (by kernel_rfl) (pureVal_ok rfl) ((List.Sublist.cons _ (List.Sublist.cons_cons _ (List.nil_sublist _)))) rfl rfl rfl ?_
        refine ExD.take (i := 10) rfl (by kernel_rfl) (pureVal_ok rfl) ((List.Sublist.cons _ (List.Sublist.cons_cons _ (List.nil_sublist _)))) rfl rfl rfl ?_
        refine ExD.take (i := 11) rfl (by kernel_rfl) (pureVal_ok rfl) ((List.Sublist.cons _ (List.Sublist.cons_cons _ (List.nil_sublist _)))) rfl rfl rfl ?_
        refine ExD.take (i := 12) rfl (by kernel_rfl) (by first | exact fr_sub64 rfl rfl rfl (by omega) | exact fr_sub rfl rfl rfl) ((List.Sublist.cons _ (List.Sublist.cons_cons _ (List.nil_sublist _)))) rfl rfl rfl ?_
        refine ExD.take (i := 13) rfl (by kernel_rfl) (by first | exact fr_mul64 rfl rfl rfl (by omega) | exact fr_mul rfl rfl rfl) ((List.Sublist.cons _ (List.Sublist.cons_cons _ (List.nil_sublist _)))) rfl rfl rfl ?_
        refine ExD.two (i := 4) (j := 8) rfl rfl (by kernel_rfl) (by kernel_rfl) (by kernel_rfl) rfl (List.Sublist.cons _ (List.Sublist.cons_cons _ (List.nil_sublist _))) rfl rfl rfl rfl rfl rfl rfl rfl rfl (fr_load rfl rfl rfl rfl (CellO.blk (i := 0) rfl rfl)) (fr_loadN rfl rfl rfl rfl rfl (SegO.part (i := 0) 8 rfl)) (fr_load rfl rfl rfl rfl (CellO.blk (i := 0) rfl rfl)) (fr_loadN rfl rfl rfl rfl rfl (SegO.part (i := 0) 8 rfl)) ?_
        refine ExD.op (i := 14) rfl (by kernel_rfl) rfl (op_ret rfl rfl rfl (c_added d.stack (by first | assumption | simp_all) _ _ d.shows (by assumption) (by first | assumption | simp_all) (by assumption) _ (by omega)) (Reads.get (Reads.row (i := 1) rfl)) rfl rfl (fun x7 hx7 => ⟨(List.Sublist.cons _ (List.Sublist.cons_cons _ (List.nil_sublist _))), ?_⟩))
        refine ExD.take (i := 15) rfl (by kernel_rfl) (pureVal_ok rfl) ((List.Sublist.cons _ (List.Sublist.cons_cons _ (List.nil_sublist _)))) rfl rfl rfl ?_
        refine ExD.take (i := 16) rfl (by kernel_rfl) (pureVal_ok rfl) ((List.Sublist.cons _ (List.Sublist.cons_cons _ (List.nil_sublist _)))) rfl rfl rfl ?_
        refine ExD.take (i := 17) rfl (by kernel_rfl) (pureVal_ok rfl) ((List.Sublist.cons _ (List.Sublist.cons_cons _ (List.nil_sublist _)))) rfl rfl rfl ?_
        refine ExD.take (i := 18) rfl (by kernel_rfl) (pureVal_ok rfl) ((List.Sublist.cons _ (List.Sublist.cons_cons _ (List.nil_sublist _)))) rfl rfl rfl ?_
        refine ExD.take (i := 19) rfl (by kernel_rfl) (pureVal_ok rfl) ((List.Sublist.cons _ (List.Sublist.cons_cons _ (List.nil_sublist _)))) rfl rfl rfl ?_
        refine ExD.op (i := 20) rfl (by kernel_rfl) rfl (op_storeC (i := 0) rfl rfl rfl rfl rfl rfl rfl rfl rfl rfl ⟨(List.Sublist.cons _ (List.Sublist.cons_cons _ (List.nil_sublist _))), ?_⟩)
        refine ExD.done (by kernel_rfl) ?_
        refine Ex.regSeq (ExL.pures 2 rfl ?_)
        refine ExL.nil ?_
        refine Ex.ret ?_
        refine MutQ.mk () rfl (.tmp rfl .nil) (tI (by first | (rw [pv_stop (by assumption)]; first | done | rfl) | (rw [pv_hit (by assumption) ⟨by omega, by omega⟩]; first | done | rfl) | (rw [pv_on (by assumption) (by omega)]; first | done | rfl))) 2 [0, 1] (by first | (rw [pv_stop (by assumption)]; first | done | rfl) | (rw [pv_hit (by assumption) ⟨by omega, by omega⟩, ← hst1]; first | done | rfl) | (rw [pv_on (by assumption) (by omega), ← hst2]; first | done | rfl)) rfl (trivial)
    · refine ExL.pures 8 rfl ?_
      refine ExL.nil ?_
      refine Ex.cond_f rfl ?_
      refine Ex.skip ?_
      refine Ex.drawSeqI [1] rfl rfl ?_
      refine ExD.take (i := 0) rfl (by kernel_rfl) (pureVal_ok rfl) ((List.Sublist.cons _ (List.Sublist.cons_cons _ (List.nil_sublist _)))) rfl rfl rfl ?_
      refine ExD.take (i := 1) rfl (by kernel_rfl) (pureVal_ok rfl) ((List.Sublist.cons _ (List.Sublist.cons_cons _ (List.nil_sublist _)))) rfl rfl rfl ?_
      refine ExD.take (i := 2) rfl (by kernel_rfl) (pureVal_ok rfl) ((List.Sublist.cons _ (List.Sublist.cons_cons _ (List.nil_sublist _)))) rfl rfl rfl ?_
      refine ExD.take (i := 3) rfl (by kernel_rfl) (pureVal_ok rfl) ((List.Sublist.cons _ (List.Sublist.cons_cons _ (List.nil_sublist _)))) rfl rfl rfl ?_
      refine ExD.take (i := 5) rfl (by kernel_rfl) (pureVal_ok rfl) ((List.Sublist.cons _ (List.Sublist.cons_cons _ (List.nil_sublist _)))) rfl rfl rfl ?_
      refine ExD.take (i := 6) rfl (by kernel_rfl) (pureVal_ok rfl) ((List.Sublist.cons _ (List.Sublist.cons_cons _ (List.nil_sublist _)))) rfl rfl rfl ?_
      refine ExD.take (i := 7) rfl (by kernel_rfl) (pureVal_ok rfl) ((List.Sublist.cons _ (List.Sublist.cons_cons _ (List.nil_sublist _)))) rfl rfl rfl ?_
      refine ExD.take (i := 9) rfl (by kernel_rfl) (pureVal_ok rfl) ((List.Sublist.cons _ (List.Sublist.cons_cons _ (List.nil_sublist _)))) rfl rfl rfl ?_
      refine ExD.take (i := 10) rfl (by kernel_rfl) (pureVal_ok rfl) ((List.Sublist.cons _ (List.Sublist.cons_cons _ (List.nil_sublist _)))) rfl rfl rfl ?_
      refine ExD.take (i := 11) rfl (by kernel_rfl) (pureVal_ok rfl) ((List.Sublist.cons _ (List.Sublist.cons_cons _ (List.nil_sublist _)))) rfl rfl rfl ?_
      refine ExD.take (i := 12) rfl (by kernel_rfl) (by first | exact fr_sub64 rfl rfl rfl (by omega) | exact fr_sub rfl rfl rfl) ((List.Sublist.cons _ (List.Sublist.cons_cons _ (List.nil_sublist _)))) rfl rfl rfl ?_
      refine ExD.take (i := 13) rfl (by kernel_rfl) (by first | exact fr_mul64 rfl rfl rfl (by omega) | exact fr_mul rfl rfl rfl) ((List.Sublist.cons _ (List.Sublist.cons_cons _ (List.nil_sublist _)))) rfl rfl rfl ?_
      refine ExD.two (i := 4) (j := 8) rfl rfl (by kernel_rfl) (by kernel_rfl) (by kernel_rfl) rfl (List.Sublist.cons _ (List.Sublist.cons_cons _ (List.nil_sublist _))) rfl rfl rfl rfl rfl rfl rfl rfl rfl (fr_load rfl rfl rfl rfl (CellO.blk (i := 0) rfl rfl)) (fr_loadN rfl rfl rfl rfl rfl (SegO.part (i := 0) 8 rfl)) (fr_load rfl rfl rfl rfl (CellO.blk (i := 0) rfl rfl)) (fr_loadN rfl rfl rfl rfl rfl (SegO.part (i := 0) 8 rfl)) ?_
      refine ExD.op (i := 14) rfl (by kernel_rfl) rfl (op_ret rfl rfl rfl (c_added d.stack (by first | assumption | simp_all) _ _ d.shows (by assumption) (by first | assumption | simp_all) (by assumption) _ (by omega)) (Reads.get (Reads.row (i := 1) rfl)) rfl rfl (fun x8 hx8 => ⟨(List.Sublist.cons _ (List.Sublist.cons_cons _ (List.nil_sublist _))), ?_⟩))
      refine ExD.take (i := 15) rfl (by kernel_rfl) (pureVal_ok rfl) ((List.Sublist.cons _ (List.Sublist.cons_cons _ (List.nil_sublist _)))) rfl rfl rfl ?_
      refine ExD.take (i := 16) rfl (by kernel_rfl) (pureVal_ok rfl) ((List.Sublist.cons _ (List.Sublist.cons_cons _ (List.nil_sublist _)))) rfl rfl rfl ?_
      refine ExD.take (i := 17) rfl (by kernel_rfl) (pureVal_ok rfl) ((List.Sublist.cons _ (List.Sublist.cons_cons _ (List.nil_sublist _)))) rfl rfl rfl ?_
      refine ExD.take (i := 18) rfl (by kernel_rfl) (pureVal_ok rfl) ((List.Sublist.cons _ (List.Sublist.cons_cons _ (List.nil_sublist _)))) rfl rfl rfl ?_
      refine ExD.take (i := 19) rfl (by kernel_rfl) (pureVal_ok rfl) ((List.Sublist.cons _ (List.Sublist.cons_cons _ (List.nil_sublist _)))) rfl rfl rfl ?_
      refine ExD.op (i := 20) rfl (by kernel_rfl) rfl (op_storeC (i := 0) rfl rfl rfl rfl rfl rfl rfl rfl rfl rfl ⟨(List.Sublist.cons _ (List.Sublist.cons_cons _ (List.nil_sublist _))), ?_⟩)
      refine ExD.done (by kernel_rfl) ?_
      refine Ex.regSeq (ExL.pures 2 rfl ?_)
      refine ExL.nil ?_
      refine Ex.ret ?_
      refine MutQ.mk () rfl (.tmp rfl .nil) (tI (by first | (rw [pv_stop (by assumption)]; first | done | rfl) | (rw [pv_hit (by assumption) ⟨by omega, by omega⟩]; first | done | rfl) | (rw [pv_on (by assumption) (by omega)]; first | done | rfl))) 2 [0, 1] (by first | (rw [pv_stop (by assumption)]; first | done | rfl) | (rw [pv_hit (by assumption) ⟨by omega, by omega⟩, ← hst1]; first | done | rfl) | (rw [pv_on (by assumption) (by omega), ← hst2]; first | done | rfl)) rfl (trivial)
theorem e_83 : Enters Tryz.prog 83 := Enters.of Tryz.func83 rfl
theorem c_l07Count_f (d : VDev) (hk : OkDev d) (hv : validDev d = true) (Ad : Option Addr) (cd : Nat) (b : Nat) (n : Int) (hn : 0 ≤ n ∧ n ≤ 1000000000000) : Mut Tryz.prog 83 [.pointer (some ⟨b, 0, none⟩), .int .i64 n, .bool false] [.blk b (encV Ad cd d) 28, .row (.slice Ad d.stack.length cd) 5 1 d.stack.length (d.stack.flatMap (eI .u8))] (fun base w0 F => True) (fun x : Unit => .int .i64 (pulseV d n (1)).2) (fun x => [.blk b (encV Ad cd (pulseV d n (1)).1) 28, .row (.slice Ad d.stack.length cd) 5 1 d.stack.length (d.stack.flatMap (eI .u8))]) (fun x => True) := by
  refine Mut.of e_83 Tryz.func83 rfl Tryz.ntmps83 rfl rfl (fun base w0 F hfr => ?_)
  have hkk := hk
  obtain ⟨hl, hu, ha, hpp, htt⟩ := hk
  have hO := devOk ha hv
  have hvs : validStack d.stack = true := by unfold validDev at hv; rw [decide_eq_true_iff] at hv; exact hv.1
  have hvd := hO.vd
  have hm0 : maxLen = 9223372036854775807 := rfl
  have hz := sizeS hO
  have hle := hO.stk.le
  have hps := hO.stk.pos
  have hlt : 0 ≤ val d.stack d.shows.l ∧ val d.stack d.shows.l < prod d.stack := hO.v_lt
  have hpr := hO.preset
  have htk := hO.tick
  have hub := until_bd hO (1)
  have huw := uw (d := d) (st := 1)
  refine Ex.regSeq (ExL.pures 1 rfl ?_)
  refine ExL.nil ?_
  refine Ex.seq ?_
  refine Ex.regSeq (ExL.pures 3 rfl ?_)
  refine ExL.free (fr_load rfl rfl rfl rfl (CellO.blk (i := 0) rfl rfl)) rfl rfl rfl ?_
  refine ExL.nil ?_
  refine Ex.cond rfl (fun hb1 => ?_) (fun hb1 => ?_)
  · refine Ex.regSeq (ExL.pures 2 rfl ?_)
    refine ExL.nil ?_
    refine Ex.ret ?_
    refine MutQ.mk () rfl (.tmp rfl .nil) (tI (by first | (rw [pv_stop (by assumption)]; first | done | rfl) | (rw [uw_pos (d := d) (st := 1) (by omega), pv_hit (by assumption) ⟨by omega, by omega⟩]; first | done | rfl) | (rw [pv_on (by assumption) (by omega)]; first | done | rfl))) 2 [0, 1] (by first | (rw [pv_stop (by assumption)]; first | done | rfl) | (rw [uw_pos (d := d) (st := 1) (by omega), pv_hit (by assumption) ⟨by omega, by omega⟩, Int.one_mul]; first | done | rfl) | (rw [pv_on (by assumption) (by omega), Int.one_mul]; first | done | rfl)) rfl (trivial)
  · refine Ex.skip ?_
    refine Ex.regSeq (ExL.pures 2 rfl ?_)
    refine ExL.op rfl (op_ret rfl rfl rfl (c_lu_f d (by first | assumption | exact ⟨by assumption, by assumption, by assumption, by assumption, by assumption⟩) (by assumption) _ _ _) (fun w hw => ⟨Reads.get (Reads.blk (i := 0) rfl) w hw, Reads.get (Reads.row (i := 1) rfl) w hw⟩) rfl rfl (fun x2 hx2 => ?_))
    refine ExL.pures 1 rfl ?_
    refine ExL.nil ?_
    refine Ex.regSeq (ExL.pures 1 rfl ?_)
    refine ExL.nil ?_
    refine Ex.seq ?_
    refine Ex.regSeq (ExL.pures 1 rfl ?_)
    refine ExL.geq rfl rfl rfl rfl rfl rfl (fun h3 => ?_) (fun h3 => ?_)
    · refine ExL.pures 3 rfl ?_
      refine ExL.geq rfl rfl rfl rfl rfl rfl (fun h4 => ?_) (fun h4 => ?_)
      · refine ExL.pures 1 rfl ?_
        refine ExL.nil ?_
        refine Ex.cond_t rfl ?_
        refine Ex.regSeq (ExL.pures 2 rfl ?_)
        refine ExL.free (by first | exact fr_sub64 rfl rfl rfl (by omega) | exact fr_sub rfl rfl rfl) rfl rfl rfl ?_
        refine ExL.pures 1 rfl ?_
        refine ExL.nil ?_
        refine Ex.regSeq (ExL.pures 2 rfl ?_)
        refine ExL.nil ?_
        refine Ex.region (ExL.pures 3 rfl ?_)
        refine ExL.op rfl (op_storeC (i := 0) rfl rfl rfl rfl rfl rfl rfl rfl rfl rfl ?_)
        refine ExL.nil ?_
        refine Ex.seq ?_
        refine Ex.regSeq (ExL.pures 1 rfl ?_)
        refine ExL.nil ?_
        refine Ex.cond_f rfl ?_
        refine Ex.skip ?_
        refine Ex.drawSeqI [1] rfl rfl ?_
        refine ExD.take (i := 0) rfl (by kernel_rfl) (pureVal_ok rfl) ((List.Sublist.cons _ (List.Sublist.cons_cons _ (List.nil_sublist _)))) rfl rfl rfl ?_
        refine ExD.take (i := 1) rfl (by kernel_rfl) (pureVal_ok rfl) ((List.Sublist.cons _ (List.Sublist.cons_cons _ (List.nil_sublist _)))) rfl rfl rfl ?_
        refine ExD.take (i := 2) rfl (by kernel_rfl) (pureVal_ok rfl) ((List.Sublist.cons _ (List.Sublist.cons_cons _ (List.nil_sublist _)))) rfl rfl rfl ?_
        refine ExD.take (i := 3) rfl (by kernel_rfl) (pureVal_ok rfl) ((List.Sublist.cons _ (List.Sublist.cons_cons _ (List.nil_sublist _)))) rfl rfl rfl ?_
        refine ExD.take (i := 5) rfl (by kernel_rfl) (pureVal_ok rfl) ((List.Sublist.cons _ (List.Sublist.cons_cons _ (List.nil_sublist _)))) rfl rfl rfl ?_
        refine ExD.take (i := 6) rfl (by kernel_rfl) (pureVal_ok rfl) ((List.Sublist.cons _ (List.Sublist.cons_cons _ (List.nil_sublist _)))) rfl rfl rfl ?_
        refine ExD.take (i := 7) rfl (by kernel_rfl) (pureVal_ok rfl) ((List.Sublist.cons _ (List.Sublist.cons_cons _ (List.nil_sublist _)))) rfl rfl rfl ?_
        refine ExD.take (i := 9) rfl (by kernel_rfl) (pureVal_ok rfl) ((List.Sublist.cons _ (List.Sublist.cons_cons _ (List.nil_sublist _)))) rfl rfl rfl ?_
        refine ExD.two (i := 4) (j := 8) rfl rfl (by kernel_rfl) (by kernel_rfl) (by kernel_rfl) rfl (List.Sublist.cons _ (List.Sublist.cons_cons _ (List.nil_sublist _))) rfl rfl rfl rfl rfl rfl rfl rfl rfl (fr_load rfl rfl rfl rfl (CellO.blk (i := 0) rfl rfl)) (fr_loadN rfl rfl rfl rfl rfl (SegO.part (i := 0) 8 rfl)) (fr_load rfl rfl rfl rfl (CellO.blk (i := 0) rfl rfl)) (fr_loadN rfl rfl rfl rfl rfl (SegO.part (i := 0) 8 rfl)) ?_
        refine ExD.op (i := 10) rfl (by kernel_rfl) rfl (op_ret rfl rfl rfl (c_l01Add d.stack (by first | assumption | simp_all) _ _ d.shows (by assumption) (by first | assumption | simp_all) (by assumption) _ (by omega)) (Reads.get (Reads.row (i := 1) rfl)) rfl rfl (fun x5 hx5 => ⟨(List.Sublist.cons _ (List.Sublist.cons_cons _ (List.nil_sublist _))), ?_⟩))
        refine ExD.take (i := 11) rfl (by kernel_rfl) (pureVal_ok rfl) ((List.Sublist.cons _ (List.Sublist.cons_cons _ (List.nil_sublist _)))) rfl rfl rfl ?_
        refine ExD.take (i := 12) rfl (by kernel_rfl) (pureVal_ok rfl) ((List.Sublist.cons _ (List.Sublist.cons_cons _ (List.nil_sublist _)))) rfl rfl rfl ?_
        refine ExD.take (i := 13) rfl (by kernel_rfl) (pureVal_ok rfl) ((List.Sublist.cons _ (List.Sublist.cons_cons _ (List.nil_sublist _)))) rfl rfl rfl ?_
        refine ExD.take (i := 14) rfl (by kernel_rfl) (pureVal_ok rfl) ((List.Sublist.cons _ (List.Sublist.cons_cons _ (List.nil_sublist _)))) rfl rfl rfl ?_
        refine ExD.take (i := 15) rfl (by kernel_rfl) (pureVal_ok rfl) ((List.Sublist.cons _ (List.Sublist.cons_cons _ (List.nil_sublist _)))) rfl rfl rfl ?_
        refine ExD.op (i := 16) rfl (by kernel_rfl) rfl (op_storeC (i := 0) rfl rfl rfl rfl rfl rfl rfl rfl rfl rfl ⟨(List.Sublist.cons _ (List.Sublist.cons_cons _ (List.nil_sublist _))), ?_⟩)
        refine ExD.done (by kernel_rfl) ?_
        refine Ex.regSeq (ExL.pures 2 rfl ?_)
        refine ExL.nil ?_
        refine Ex.ret ?_
        refine MutQ.mk () rfl (.tmp rfl .nil) (tI (by first | (rw [pv_stop (by assumption)]; first | done | rfl) | (rw [uw_pos (d := d) (st := 1) (by omega), pv_hit (by assumption) ⟨by omega, by omega⟩]; first | done | rfl) | (rw [pv_on (by assumption) (by omega)]; first | done | rfl))) 2 [0, 1] (by first | (rw [pv_stop (by assumption)]; first | done | rfl) | (rw [uw_pos (d := d) (st := 1) (by omega), pv_hit (by assumption) ⟨by omega, by omega⟩, Int.one_mul]; first | done | rfl) | (rw [pv_on (by assumption) (by omega), Int.one_mul]; first | done | rfl)) rfl (trivial)
      · refine ExL.pures 1 rfl ?_
        refine ExL.nil ?_
        refine Ex.cond_f rfl ?_
        refine Ex.skip ?_
        refine Ex.seq ?_
        refine Ex.regSeq (ExL.pures 1 rfl ?_)
        refine ExL.nil ?_
        refine Ex.cond_f rfl ?_
        refine Ex.skip ?_
        refine Ex.drawSeqI [1] rfl rfl ?_
        refine ExD.take (i := 0) rfl (by kernel_rfl) (pureVal_ok rfl) ((List.Sublist.cons _ (List.Sublist.cons_cons _ (List.nil_sublist _)))) rfl rfl rfl ?_
        refine ExD.take (i := 1) rfl (by kernel_rfl) (pureVal_ok rfl) ((List.Sublist.cons _ (List.Sublist.cons_cons _ (List.nil_sublist _)))) rfl rfl rfl ?_
        refine ExD.take (i := 2) rfl (by kernel_rfl) (pureVal_ok rfl) ((List.Sublist.cons _ (List.Sublist.cons_cons _ (List.nil_sublist _)))) rfl rfl rfl ?_
        refine ExD.take (i := 3) rfl (by kernel_rfl) (pureVal_ok rfl) ((List.Sublist.cons _ (List.Sublist.cons_cons _ (List.nil_sublist _)))) rfl rfl rfl ?_
        refine ExD.take (i := 5) rfl (by kernel_rfl) (pureVal_ok rfl) ((List.Sublist.cons _ (List.Sublist.cons_cons _ (List.nil_sublist _)))) rfl rfl rfl ?_
        refine ExD.take (i := 6) rfl (by kernel_rfl) (pureVal_ok rfl) ((List.Sublist.cons _ (List.Sublist.cons_cons _ (List.nil_sublist _)))) rfl rfl rfl ?_
        refine ExD.take (i := 7) rfl (by kernel_rfl) (pureVal_ok rfl) ((List.Sublist.cons _ (List.Sublist.cons_cons _ (List.nil_sublist _)))) rfl rfl rfl ?_
        refine ExD.take (i := 9) rfl (by kernel_rfl) (pureVal_ok rfl) ((List.Sublist.cons _ (List.Sublist.cons_cons _ (List.nil_sublist _)))) rfl rfl rfl ?_
        refine ExD.two (i := 4) (j := 8) rfl rfl (by kernel_rfl) (by kernel_rfl) (by kernel_rfl) rfl (List.Sublist.cons _ (List.Sublist.cons_cons _ (List.nil_sublist _))) rfl rfl rfl rfl rfl rfl rfl rfl rfl (fr_load rfl rfl rfl rfl (CellO.blk (i := 0) rfl rfl)) (fr_loadN rfl rfl rfl rfl rfl (SegO.part (i := 0) 8 rfl)) (fr_load rfl rfl rfl rfl (CellO.blk (i := 0) rfl rfl)) (fr_loadN rfl rfl rfl rfl rfl (SegO.part (i := 0) 8 rfl)) ?_
        refine ExD.op (i := 10) rfl (by kernel_rfl) rfl (op_ret rfl rfl rfl (c_l01Add d.stack (by first | assumption | simp_all) _ _ d.shows (by assumption) (by first | assumption | simp_all) (by assumption) _ (by omega)) (Reads.get (Reads.row (i := 1) rfl)) rfl rfl (fun x6 hx6 => ⟨(List.Sublist.cons _ (List.Sublist.cons_cons _ (List.nil_sublist _))), ?_⟩))
        refine ExD.take (i := 11) rfl (by kernel_rfl) (pureVal_ok rfl) ((List.Sublist.cons _ (List.Sublist.cons_cons _ (List.nil_sublist _)))) rfl rfl rfl ?_
        refine ExD.take (i := 12) rfl (by kernel_rfl) (pureVal_ok rfl) ((List.Sublist.cons _ (List.Sublist.cons_cons _ (List.nil_sublist _)))) rfl rfl rfl ?_
        refine ExD.take (i := 13) rfl (by kernel_rfl) (pureVal_ok rfl) ((List.Sublist.cons _ (List.Sublist.cons_cons _ (List.nil_sublist _)))) rfl rfl rfl ?_
        refine ExD.take (i := 14) rfl (by kernel_rfl) (pureVal_ok rfl) ((List.Sublist.cons _ (List.Sublist.cons_cons _ (List.nil_sublist _)))) rfl rfl rfl ?_
        refine ExD.take (i := 15) rfl (by kernel_rfl) (pureVal_ok rfl) ((List.Sublist.cons _ (List.Sublist.cons_cons _ (List.nil_sublist _)))) rfl rfl rfl ?_
        refine ExD.op (i := 16) rfl (by kernel_rfl) rfl (op_storeC (i := 0) rfl rfl rfl rfl rfl rfl rfl rfl rfl rfl ⟨(List.Sublist.cons _ (List.Sublist.cons_cons _ (List.nil_sublist _))), ?_⟩)
        refine ExD.done (by kernel_rfl) ?_
        refine Ex.regSeq (ExL.pures 2 rfl ?_)
        refine ExL.nil ?_
        refine Ex.ret ?_
        refine MutQ.mk () rfl (.tmp rfl .nil) (tI (by first | (rw [pv_stop (by assumption)]; first | done | rfl) | (rw [uw_pos (d := d) (st := 1) (by omega), pv_hit (by assumption) ⟨by omega, by omega⟩]; first | done | rfl) | (rw [pv_on (by assumption) (by omega)]; first | done | rfl))) 2 [0, 1] (by first | (rw [pv_stop (by assumption)]; first | done | rfl) | (rw [uw_pos (d := d) (st := 1) (by omega), pv_hit (by assumption) ⟨by omega, by omega⟩, Int.one_mul]; first | done | rfl) | (rw [pv_on (by assumption) (by omega), Int.one_mul]; first | done | rfl)) rfl (trivial)
    · refine ExL.pures 5 rfl ?_
      refine ExL.nil ?_
      refine Ex.cond_f rfl ?_
      refine Ex.skip ?_
      refine Ex.seq ?_
      refine Ex.regSeq (ExL.pures 1 rfl ?_)
      refine ExL.nil ?_
      refine Ex.cond_f rfl ?_
      refine Ex.skip ?_
      refine Ex.drawSeqI [1] rfl rfl ?_
      refine ExD.take (i := 0) rfl (by kernel_rfl) (pureVal_ok rfl) ((List.Sublist.cons _ (List.Sublist.cons_cons _ (List.nil_sublist _)))) rfl rfl rfl ?_
      refine ExD.take (i := 1) rfl (by kernel_rfl) (pureVal_ok rfl) ((List.Sublist.cons _ (List.Sublist.cons_cons _ (List.nil_sublist _)))) rfl rfl rfl ?_
      refine ExD.take (i := 2) rfl (by kernel_rfl) (pureVal_ok rfl) ((List.Sublist.cons _ (List.Sublist.cons_cons _ (List.nil_sublist _)))) rfl rfl rfl ?_
      refine ExD.take (i := 3) rfl (by kernel_rfl) (pureVal_ok rfl) ((List.Sublist.cons _ (List.Sublist.cons_cons _ (List.nil_sublist _)))) rfl rfl rfl ?_
      refine ExD.take (i := 5) rfl (by kernel_rfl) (pureVal_ok rfl) ((List.Sublist.cons _ (List.Sublist.cons_cons _ (List.nil_sublist _)))) rfl rfl rfl ?_
      refine ExD.take (i := 6) rfl (by kernel_rfl) (pureVal_ok rfl) ((List.Sublist.cons _ (List.Sublist.cons_cons _ (List.nil_sublist _)))) rfl rfl rfl ?_
      refine ExD.take (i := 7) rfl (by kernel_rfl) (pureVal_ok rfl) ((List.Sublist.cons _ (List.Sublist.cons_cons _ (List.nil_sublist _)))) rfl rfl rfl ?_
      refine ExD.take (i := 9) rfl (by kernel_rfl) (pureVal_ok rfl) ((List.Sublist.cons _ (List.Sublist.cons_cons _ (List.nil_sublist _)))) rfl rfl rfl ?_
      refine ExD.two (i := 4) (j := 8) rfl rfl (by kernel_rfl) (by kernel_rfl) (by kernel_rfl) rfl (List.Sublist.cons _ (List.Sublist.cons_cons _ (List.nil_sublist _))) rfl rfl rfl rfl rfl rfl rfl rfl rfl (fr_load rfl rfl rfl rfl (CellO.blk (i := 0) rfl rfl)) (fr_loadN rfl rfl rfl rfl rfl (SegO.part (i := 0) 8 rfl)) (fr_load rfl rfl rfl rfl (CellO.blk (i := 0) rfl rfl)) (fr_loadN rfl rfl rfl rfl rfl (SegO.part (i := 0) 8 rfl)) ?_
      refine ExD.op (i := 10) rfl (by kernel_rfl) rfl (op_ret rfl rfl rfl (c_l01Add d.stack (by first | assumption | simp_all) _ _ d.shows (by assumption) (by first | assumption | simp_all) (by assumption) _ (by omega)) (Reads.get (Reads.row (i := 1) rfl)) rfl rfl (fun x7 hx7 => ⟨(List.Sublist.cons _ (List.Sublist.cons_cons _ (List.nil_sublist _))), ?_⟩))
      refine ExD.take (i := 11) rfl (by kernel_rfl) (pureVal_ok rfl) ((List.Sublist.cons _ (List.Sublist.cons_cons _ (List.nil_sublist _)))) rfl rfl rfl ?_
      refine ExD.take (i := 12) rfl (by kernel_rfl) (pureVal_ok rfl) ((List.Sublist.cons _ (List.Sublist.cons_cons _ (List.nil_sublist _)))) rfl rfl rfl ?_
      refine ExD.take (i := 13) rfl (by kernel_rfl) (pureVal_ok rfl) ((List.Sublist.cons _ (List.Sublist.cons_cons _ (List.nil_sublist _)))) rfl rfl rfl ?_
      refine ExD.take (i := 14) rfl (by kernel_rfl) (pureVal_ok rfl) ((List.Sublist.cons _ (List.Sublist.cons_cons _ (List.nil_sublist _)))) rfl rfl rfl ?_
      refine ExD.take (i := 15) rfl (by kernel_rfl) (pureVal_ok rfl) ((List.Sublist.cons _ (List.Sublist.cons_cons _ (List.nil_sublist _)))) rfl rfl rfl ?_
      refine ExD.op (i := 16) rfl (by kernel_rfl) rfl (op_storeC (i := 0) rfl rfl rfl rfl rfl rfl rfl rfl rfl rfl ⟨(List.Sublist.cons _ (List.Sublist.cons_cons _ (List.nil_sublist _))), ?_⟩)
      refine ExD.done (by kernel_rfl) ?_
      refine Ex.regSeq (ExL.pures 2 rfl ?_)
      refine ExL.nil ?_
      refine Ex.ret ?_
      refine MutQ.mk () rfl (.tmp rfl .nil) (tI (by first | (rw [pv_stop (by assumption)]; first | done | rfl) | (rw [uw_pos (d := d) (st := 1) (by omega), pv_hit (by assumption) ⟨by omega, by omega⟩]; first | done | rfl) | (rw [pv_on (by assumption) (by omega)]; first | done | rfl))) 2 [0, 1] (by first | (rw [pv_stop (by assumption)]; first | done | rfl) | (rw [uw_pos (d := d) (st := 1) (by omega), pv_hit (by assumption) ⟨by omega, by omega⟩, Int.one_mul]; first | done | rfl) | (rw [pv_on (by assumption) (by omega), Int.one_mul]; first | done | rfl)) rfl (trivial)
theorem c_l07Count_t (d : VDev) (hk : OkDev d) (hv : validDev d = true) (Ad : Option Addr) (cd : Nat) (b : Nat) (n : Int) (hn : 0 ≤ n ∧ n ≤ 1000000000000) : Mut Tryz.prog 83 [.pointer (some ⟨b, 0, none⟩), .int .i64 n, .bool true] [.blk b (encV Ad cd d) 28, .row (.slice Ad d.stack.length cd) 5 1 d.stack.length (d.stack.flatMap (eI .u8))] (fun base w0 F => True) (fun x : Unit => .int .i64 (pulseV d n (-1)).2) (fun x => [.blk b (encV Ad cd (pulseV d n (-1)).1) 28, .row (.slice Ad d.stack.length cd) 5 1 d.stack.length (d.stack.flatMap (eI .u8))]) (fun x => True) := by
  refine Mut.of e_83 Tryz.func83 rfl Tryz.ntmps83 rfl rfl (fun base w0 F hfr => ?_)
  have hkk := hk
  obtain ⟨hl, hu, ha, hpp, htt⟩ := hk
  have hO := devOk ha hv
  have hvs : validStack d.stack = true := by unfold validDev at hv; rw [decide_eq_true_iff] at hv; exact hv.1
  have hvd := hO.vd
  have hm0 : maxLen = 9223372036854775807 := rfl
  have hz := sizeS hO
  have hle := hO.stk.le
  have hps := hO.stk.pos
  have hlt : 0 ≤ val d.stack d.shows.l ∧ val d.stack d.shows.l < prod d.stack := hO.v_lt
  have hpr := hO.preset
  have htk := hO.tick
  have hub := until_bd hO (-1)
  have huw := uw (d := d) (st := -1)
  refine Ex.regSeq (ExL.pures 1 rfl ?_)
  refine ExL.nil ?_
  refine Ex.seq ?_
  refine Ex.regSeq (ExL.pures 3 rfl ?_)
  refine ExL.free (fr_load rfl rfl rfl rfl (CellO.blk (i := 0) rfl rfl)) rfl rfl rfl ?_
  refine ExL.nil ?_
  refine Ex.cond rfl (fun hb1 => ?_) (fun hb1 => ?_)
  · refine Ex.regSeq (ExL.pures 2 rfl ?_)
    refine ExL.nil ?_
    refine Ex.ret ?_
    refine MutQ.mk () rfl (.tmp rfl .nil) (tI (by first | (rw [pv_stop (by assumption)]; first | done | rfl) | (rw [uw_pos (d := d) (st := -1) (by omega), pv_hit (by assumption) ⟨by omega, by omega⟩]; first | done | rfl) | (rw [pv_on (by assumption) (by omega)]; first | done | rfl))) 2 [0, 1] (by first | (rw [pv_stop (by assumption)]; first | done | rfl) | (rw [uw_pos (d := d) (st := -1) (by omega), pv_hit (by assumption) ⟨by omega, by omega⟩, Int.neg_mul, Int.one_mul]; first | done | rfl) | (rw [pv_on (by assumption) (by omega), Int.neg_mul, Int.one_mul]; first | done | rfl)) rfl (trivial)
  · refine Ex.skip ?_
    refine Ex.regSeq (ExL.pures 2 rfl ?_)
    refine ExL.op rfl (op_ret rfl rfl rfl (c_lu_t d (by first | assumption | exact ⟨by assumption, by assumption, by assumption, by assumption, by assumption⟩) (by assumption) _ _ _) (fun w hw => ⟨Reads.get (Reads.blk (i := 0) rfl) w hw, Reads.get (Reads.row (i := 1) rfl) w hw⟩) rfl rfl (fun x2 hx2 => ?_))
    refine ExL.pures 1 rfl ?_
    refine ExL.nil ?_
    refine Ex.regSeq (ExL.pures 1 rfl ?_)
    refine ExL.nil ?_
    refine Ex.seq ?_
    refine Ex.regSeq (ExL.pures 1 rfl ?_)
    refine ExL.geq rfl rfl rfl rfl rfl rfl (fun h3 => ?_) (fun h3 => ?_)
    · refine ExL.pures 3 rfl ?_
      refine ExL.geq rfl rfl rfl rfl rfl rfl (fun h4 => ?_) (fun h4 => ?_)
      · refine ExL.pures 1 rfl ?_
        refine ExL.nil ?_
        refine Ex.cond_t rfl ?_
        refine Ex.regSeq (ExL.pures 2 rfl ?_)
        refine ExL.free (by first | exact fr_sub64 rfl rfl rfl (by omega) | exact fr_sub rfl rfl rfl) rfl rfl rfl ?_
        refine ExL.pures 1 rfl ?_
        refine ExL.nil ?_
        refine Ex.regSeq (ExL.pures 2 rfl ?_)
        refine ExL.nil ?_
        refine Ex.region (ExL.pures 3 rfl ?_)
        refine ExL.op rfl (op_storeC (i := 0) rfl rfl rfl rfl rfl rfl rfl rfl rfl rfl ?_)
        refine ExL.nil ?_
        refine Ex.seq ?_
        refine Ex.regSeq (ExL.pures 1 rfl ?_)
        refine ExL.nil ?_
        refine Ex.cond_t rfl ?_
        refine Ex.region (ExL.pures 1 rfl ?_)
        refine ExL.free (by first | exact fr_neg64 rfl rfl (by omega) | exact fr_neg rfl rfl) rfl rfl rfl ?_
        refine ExL.pures 1 rfl ?_
        refine ExL.nil ?_
        refine Ex.drawSeqI [1] rfl rfl ?_
        refine ExD.take (i := 0) rfl (by kernel_rfl) (pureVal_ok rfl) ((List.Sublist.cons _ (List.Sublist.cons_cons _ (List.nil_sublist _)))) rfl rfl rfl ?_
        refine ExD.take (i := 1) rfl (by kernel_rfl) (pureVal_ok rfl) ((List.Sublist.cons _ (List.Sublist.cons_cons _ (List.nil_sublist _)))) rfl rfl rfl ?_
        refine ExD.take (i := 2) rfl (by kernel_rfl) (pureVal_ok rfl) ((List.Sublist.cons _ (List.Sublist.cons_cons _ (List.nil_sublist _)))) rfl rfl rfl ?_
        refine ExD.take (i := 3) rfl (by kernel_rfl) (pureVal_ok rfl) ((List.Sublist.cons _ (List.Sublist.cons_cons _ (List.nil_sublist _)))) rfl rfl rfl ?_
        refine ExD.take (i := 5) rfl (by kernel_rfl) (pureVal_ok rfl) ((List.Sublist.cons _ (List.Sublist.cons_cons _ (List.nil_sublist _)))) rfl rfl rfl ?_
        refine ExD.take (i := 6) rfl (by kernel_rfl) (pureVal_ok rfl) ((List.Sublist.cons _ (List.Sublist.cons_cons _ (List.nil_sublist _)))) rfl rfl rfl ?_
        refine ExD.take (i := 7) rfl (by kernel_rfl) (pureVal_ok rfl) ((List.Sublist.cons _ (List.Sublist.cons_cons _ (List.nil_sublist _)))) rfl rfl rfl ?_
        refine ExD.take (i := 9) rfl (by kernel_rfl) (pureVal_ok rfl) ((List.Sublist.cons _ (List.Sublist.cons_cons _ (List.nil_sublist _)))) rfl rfl rfl ?_
        refine ExD.two (i := 4) (j := 8) rfl rfl (by kernel_rfl) (by kernel_rfl) (by kernel_rfl) rfl (List.Sublist.cons _ (List.Sublist.cons_cons _ (List.nil_sublist _))) rfl rfl rfl rfl rfl rfl rfl rfl rfl (fr_load rfl rfl rfl rfl (CellO.blk (i := 0) rfl rfl)) (fr_loadN rfl rfl rfl rfl rfl (SegO.part (i := 0) 8 rfl)) (fr_load rfl rfl rfl rfl (CellO.blk (i := 0) rfl rfl)) (fr_loadN rfl rfl rfl rfl rfl (SegO.part (i := 0) 8 rfl)) ?_
        refine ExD.op (i := 10) rfl (by kernel_rfl) rfl (op_ret rfl rfl rfl (c_l01Add d.stack (by first | assumption | simp_all) _ _ d.shows (by assumption) (by first | assumption | simp_all) (by assumption) _ (by omega)) (Reads.get (Reads.row (i := 1) rfl)) rfl rfl (fun x5 hx5 => ⟨(List.Sublist.cons _ (List.Sublist.cons_cons _ (List.nil_sublist _))), ?_⟩))
        refine ExD.take (i := 11) rfl (by kernel_rfl) (pureVal_ok rfl) ((List.Sublist.cons _ (List.Sublist.cons_cons _ (List.nil_sublist _)))) rfl rfl rfl ?_
        refine ExD.take (i := 12) rfl (by kernel_rfl) (pureVal_ok rfl) ((List.Sublist.cons _ (List.Sublist.cons_cons _ (List.nil_sublist _)))) rfl rfl rfl ?_
        refine ExD.take (i := 13) rfl (by kernel_rfl) (pureVal_ok rfl) ((List.Sublist.cons _ (List.Sublist.cons_cons _ (List.nil_sublist _)))) rfl rfl rfl ?_
        refine ExD.take (i := 14) rfl (by kernel_rfl) (pureVal_ok rfl) ((List.Sublist.cons _ (List.Sublist.cons_cons _ (List.nil_sublist _)))) rfl rfl rfl ?_
        refine ExD.take (i := 15) rfl (by kernel_rfl) (pureVal_ok rfl) ((List.Sublist.cons _ (List.Sublist.cons_cons _ (List.nil_sublist _)))) rfl rfl rfl ?_
        refine ExD.op (i := 16) rfl (by kernel_rfl) rfl (op_storeC (i := 0) rfl rfl rfl rfl rfl rfl rfl rfl rfl rfl ⟨(List.Sublist.cons _ (List.Sublist.cons_cons _ (List.nil_sublist _))), ?_⟩)
        refine ExD.done (by kernel_rfl) ?_
        refine Ex.regSeq (ExL.pures 2 rfl ?_)
        refine ExL.nil ?_
        refine Ex.ret ?_
        refine MutQ.mk () rfl (.tmp rfl .nil) (tI (by first | (rw [pv_stop (by assumption)]; first | done | rfl) | (rw [uw_pos (d := d) (st := -1) (by omega), pv_hit (by assumption) ⟨by omega, by omega⟩]; first | done | rfl) | (rw [pv_on (by assumption) (by omega)]; first | done | rfl))) 2 [0, 1] (by first | (rw [pv_stop (by assumption)]; first | done | rfl) | (rw [uw_pos (d := d) (st := -1) (by omega), pv_hit (by assumption) ⟨by omega, by omega⟩, Int.neg_mul, Int.one_mul]; first | done | rfl) | (rw [pv_on (by assumption) (by omega), Int.neg_mul, Int.one_mul]; first | done | rfl)) rfl (trivial)
      · refine ExL.pures 1 rfl ?_
        refine ExL.nil ?_
        refine Ex.cond_f rfl ?_
        refine Ex.skip ?_
        refine Ex.seq ?_
        refine Ex.regSeq (ExL.pures 1 rfl ?_)
        refine ExL.nil ?_
        refine Ex.cond_t rfl ?_
        refine Ex.region (ExL.pures 1 rfl ?_)
        refine ExL.free (by first | exact fr_neg64 rfl rfl (by omega) | exact fr_neg rfl rfl) rfl rfl rfl ?_
        refine ExL.pures 1 rfl ?_
        refine ExL.nil ?_
        refine Ex.drawSeqI [1] rfl rfl ?_
        refine ExD.take (i := 0) rfl (by kernel_rfl) (pureVal_ok rfl) ((List.Sublist.cons _ (List.Sublist.cons_cons _ (List.nil_sublist _)))) rfl rfl rfl ?_
        refine ExD.take (i := 1) rfl (by kernel_rfl) (pureVal_ok rfl) ((List.Sublist.cons _ (List.Sublist.cons_cons _ (List.nil_sublist _)))) rfl rfl rfl ?_
        refine ExD.take (i := 2) rfl (by kernel_rfl) (pureVal_ok rfl) ((List.Sublist.cons _ (List.Sublist.cons_cons _ (List.nil_sublist _)))) rfl rfl rfl ?_
        refine ExD.take (i := 3) rfl (by kernel_rfl) (pureVal_ok rfl) ((List.Sublist.cons _ (List.Sublist.cons_cons _ (List.nil_sublist _)))) rfl rfl rfl ?_
        refine ExD.take (i := 5) rfl (by kernel_rfl) (pureVal_ok rfl) ((List.Sublist.cons _ (List.Sublist.cons_cons _ (List.nil_sublist _)))) rfl rfl rfl ?_
        refine ExD.take (i := 6) rfl (by kernel_rfl) (pureVal_ok rfl) ((List.Sublist.cons _ (List.Sublist.cons_cons _ (List.nil_sublist _)))) rfl rfl rfl ?_
        refine ExD.take (i := 7) rfl (by kernel_rfl) (pureVal_ok rfl) ((List.Sublist.cons _ (List.Sublist.cons_cons _ (List.nil_sublist _)))) rfl rfl rfl ?_
        refine ExD.take (i := 9) rfl (by kernel_rfl) (pureVal_ok rfl) ((List.Sublist.cons _ (List.Sublist.cons_cons _ (List.nil_sublist _)))) rfl rfl rfl ?_
        refine ExD.two (i := 4) (j := 8) rfl rfl (by kernel_rfl) (by kernel_rfl) (by kernel_rfl) rfl (List.Sublist.cons _ (List.Sublist.cons_cons _ (List.nil_sublist _))) rfl rfl rfl rfl rfl rfl rfl rfl rfl (fr_load rfl rfl rfl rfl (CellO.blk (i := 0) rfl rfl)) (fr_loadN rfl rfl rfl rfl rfl (SegO.part (i := 0) 8 rfl)) (fr_load rfl rfl rfl rfl (CellO.blk (i := 0) rfl rfl)) (fr_loadN rfl rfl rfl rfl rfl (SegO.part (i := 0) 8 rfl)) ?_
        refine ExD.op (i := 10) rfl (by kernel_rfl) rfl (op_ret rfl rfl rfl (c_l01Add d.stack (by first | assumption | simp_all) _ _ d.shows (by assumption) (by first | assumption | simp_all) (by assumption) _ (by omega)) (Reads.get (Reads.row (i := 1) rfl)) rfl rfl (fun x6 hx6 => ⟨(List.Sublist.cons _ (List.Sublist.cons_cons _ (List.nil_sublist _))), ?_⟩))
        refine ExD.take (i := 11) rfl (by kernel_rfl) (pureVal_ok rfl) ((List.Sublist.cons _ (List.Sublist.cons_cons _ (List.nil_sublist _)))) rfl rfl rfl ?_
        refine ExD.take (i := 12) rfl (by kernel_rfl) (pureVal_ok rfl) ((List.Sublist.cons _ (List.Sublist.cons_cons _ (List.nil_sublist _)))) rfl rfl rfl ?_
        refine ExD.take (i := 13) rfl (by kernel_rfl) (pureVal_ok rfl) ((List.Sublist.cons _ (List.Sublist.cons_cons _ (List.nil_sublist _)))) rfl rfl rfl ?_
        refine ExD.take (i := 14) rfl (by kernel_rfl) (pureVal_ok rfl) ((List.Sublist.cons _ (List.Sublist.cons_cons _ (List.nil_sublist _)))) rfl rfl rfl ?_
        refine ExD.take (i := 15) rfl (by kernel_rfl) (pureVal_ok rfl) ((List.Sublist.cons _ (List.Sublist.cons_cons _ (List.nil_sublist _)))) rfl rfl rfl ?_
        refine ExD.op (i := 16) rfl (by kernel_rfl) rfl (op_storeC (i := 0) rfl rfl rfl rfl rfl rfl rfl rfl rfl rfl ⟨(List.Sublist.cons _ (List.Sublist.cons_cons _ (List.nil_sublist _))), ?_⟩)
        refine ExD.done (by kernel_rfl) ?_
        refine Ex.regSeq (ExL.pures 2 rfl ?_)
        refine ExL.nil ?_
        refine Ex.ret ?_
        refine MutQ.mk () rfl (.tmp rfl .nil) (tI (by first | (rw [pv_stop (by assumption)]; first | done | rfl) | (rw [uw_pos (d := d) (st := -1) (by omega), pv_hit (by assumption) ⟨by omega, by omega⟩]; first | done | rfl) | (rw [pv_on (by assumption) (by omega)]; first | done | rfl))) 2 [0, 1] (by first | (rw [pv_stop (by assumption)]; first | done | rfl) | (rw [uw_pos (d := d) (st := -1) (by omega), pv_hit (by assumption) ⟨by omega, by omega⟩, Int.neg_mul, Int.one_mul]; first | done | rfl) | (rw [pv_on (by assumption) (by omega), Int.neg_mul, Int.one_mul]; first | done | rfl)) rfl (trivial)
    · refine ExL.pures 5 rfl ?_
      refine ExL.nil ?_
      refine Ex.cond_f rfl ?_
      refine Ex.skip ?_
      refine Ex.seq ?_
      refine Ex.regSeq (ExL.pures 1 rfl ?_)
      refine ExL.nil ?_
      refine Ex.cond_t rfl ?_
      refine Ex.region (ExL.pures 1 rfl ?_)
      refine ExL.free (by first | exact fr_neg64 rfl rfl (by omega) | exact fr_neg rfl rfl) rfl rfl rfl ?_
      refine ExL.pures 1 rfl ?_
      refine ExL.nil ?_
      refine Ex.drawSeqI [1] rfl rfl ?_
      refine ExD.take (i := 0) rfl (by kernel_rfl) (pureVal_ok rfl) ((List.Sublist.cons _ (List.Sublist.cons_cons _ (List.nil_sublist _)))) rfl rfl rfl ?_
      refine ExD.take (i := 1) rfl (by kernel_rfl) (pureVal_ok rfl) ((List.Sublist.cons _ (List.Sublist.cons_cons _ (List.nil_sublist _)))) rfl rfl rfl ?_
      refine ExD.take (i := 2) rfl (by kernel_rfl) (pureVal_ok rfl) ((List.Sublist.cons _ (List.Sublist.cons_cons _ (List.nil_sublist _)))) rfl rfl rfl ?_
      refine ExD.take (i := 3) rfl (by kernel_rfl) (pureVal_ok rfl) ((List.Sublist.cons _ (List.Sublist.cons_cons _ (List.nil_sublist _)))) rfl rfl rfl ?_
      refine ExD.take (i := 5) rfl (by kernel_rfl) (pureVal_ok rfl) ((List.Sublist.cons _ (List.Sublist.cons_cons _ (List.nil_sublist _)))) rfl rfl rfl ?_
      refine ExD.take (i := 6) rfl (by kernel_rfl) (pureVal_ok rfl) ((List.Sublist.cons _ (List.Sublist.cons_cons _ (List.nil_sublist _)))) rfl rfl rfl ?_
      refine ExD.take (i := 7) rfl (by kernel_rfl) (pureVal_ok rfl) ((List.Sublist.cons _ (List.Sublist.cons_cons _ (List.nil_sublist _)))) rfl rfl rfl ?_
      refine ExD.take (i := 9) rfl (by kernel_rfl) (pureVal_ok rfl) ((List.Sublist.cons _ (List.Sublist.cons_cons _ (List.nil_sublist _)))) rfl rfl rfl ?_
      refine ExD.two (i := 4) (j := 8) rfl rfl (by kernel_rfl) (by kernel_rfl) (by kernel_rfl) rfl (List.Sublist.cons _ (List.Sublist.cons_cons _ (List.nil_sublist _))) rfl rfl rfl rfl rfl rfl rfl rfl rfl (fr_load rfl rfl rfl rfl (CellO.blk (i := 0) rfl rfl)) (fr_loadN rfl rfl rfl rfl rfl (SegO.part (i := 0) 8 rfl)) (fr_load rfl rfl rfl rfl (CellO.blk (i := 0) rfl rfl)) (fr_loadN rfl rfl rfl rfl rfl (SegO.part (i := 0) 8 rfl)) ?_
      refine ExD.op (i := 10) rfl (by kernel_rfl) rfl (op_ret rfl rfl rfl (c_l01Add d.stack (by first | assumption | simp_all) _ _ d.shows (by assumption) (by first | assumption | simp_all) (by assumption) _ (by omega)) (Reads.get (Reads.row (i := 1) rfl)) rfl rfl (fun x7 hx7 => ⟨(List.Sublist.cons _ (List.Sublist.cons_cons _ (List.nil_sublist _))), ?_⟩))
      refine ExD.take (i := 11) rfl (by kernel_rfl) (pureVal_ok rfl) ((List.Sublist.cons _ (List.Sublist.cons_cons _ (List.nil_sublist _)))) rfl rfl rfl ?_
      refine ExD.take (i := 12) rfl (by kernel_rfl) (pureVal_ok rfl) ((List.Sublist.cons _ (List.Sublist.cons_cons _ (List.nil_sublist _)))) rfl rfl rfl ?_
      refine ExD.take (i := 13) rfl (by kernel_rfl) (pureVal_ok rfl) ((List.Sublist.cons _ (List.Sublist.cons_cons _ (List.nil_sublist _)))) rfl rfl rfl ?_
      refine ExD.take (i := 14) rfl (by kernel_rfl) (pureVal_ok rfl) ((List.Sublist.cons _ (List.Sublist.cons_cons _ (List.nil_sublist _)))) rfl rfl rfl ?_
      refine ExD.take (i := 15) rfl (by kernel_rfl) (pureVal_ok rfl) ((List.Sublist.cons _ (List.Sublist.cons_cons _ (List.nil_sublist _)))) rfl rfl rfl ?_
      refine ExD.op (i := 16) rfl (by kernel_rfl) rfl (op_storeC (i := 0) rfl rfl rfl rfl rfl rfl rfl rfl rfl rfl ⟨(List.Sublist.cons _ (List.Sublist.cons_cons _ (List.nil_sublist _))), ?_⟩)
      refine ExD.done (by kernel_rfl) ?_
      refine Ex.regSeq (ExL.pures 2 rfl ?_)
      refine ExL.nil ?_
      refine Ex.ret ?_
      refine MutQ.mk () rfl (.tmp rfl .nil) (tI (by first | (rw [pv_stop (by assumption)]; first | done | rfl) | (rw [uw_pos (d := d) (st := -1) (by omega), pv_hit (by assumption) ⟨by omega, by omega⟩]; first | done | rfl) | (rw [pv_on (by assumption) (by omega)]; first | done | rfl))) 2 [0, 1] (by first | (rw [pv_stop (by assumption)]; first | done | rfl) | (rw [uw_pos (d := d) (st := -1) (by omega), pv_hit (by assumption) ⟨by omega, by omega⟩, Int.neg_mul, Int.one_mul]; first | done | rfl) | (rw [pv_on (by assumption) (by omega), Int.neg_mul, Int.one_mul]; first | done | rfl)) rfl (trivial)
theorem e_81 : Enters Tryz.prog 81 := Enters.of Tryz.func81 rfl
theorem c_shows (d : VDev) (hv : validStack d.stack = true) (hd0 : validDig d.stack d.shows.l = true) (ha : Nums 255 d.shows.l) (Ad : Option Addr) (cd : Nat) (b : Nat) : Ret Tryz.prog 81 [.pointer (some ⟨b, 0, none⟩)] (fun w => Rd w (some ⟨b, 0, none⟩) (encV Ad cd d) ∧ Rd w Ad (d.stack.flatMap (eI .u8))) (fun x : Unit => .bool (decide (d.preset = d.v))) (fun x => []) (fun x => True) := by
  refine Ret.of e_81 Tryz.func81 rfl Tryz.ntmps81 rfl rfl (fun w hpre => ?_)
  have hp := hpre.1.base
  have hd := hpre.2.base
  refine Ex.regSeq (ExL.pures 1 rfl ?_)
  refine ExL.nil ?_
  refine Ex.drawSeqM rfl ?_
  refine ExD.take (i := 0) rfl (by kernel_rfl) (pureVal_ok rfl) ((List.Sublist.refl _)) rfl rfl rfl ?_
  refine ExD.take (i := 1) rfl (by kernel_rfl) (pureVal_ok rfl) ((List.Sublist.refl _)) rfl rfl rfl ?_
  refine ExD.take (i := 2) rfl (by kernel_rfl) (pureVal_ok rfl) ((List.Sublist.refl _)) rfl rfl rfl ?_
  refine ExD.take (i := 3) rfl (by kernel_rfl) (fr_load rfl rfl rfl rfl (CellO.at 9 (Reads.old hp) rfl)) ((List.Sublist.refl _)) rfl rfl rfl ?_
  refine ExD.take (i := 4) rfl (by kernel_rfl) (pureVal_ok rfl) ((List.Sublist.refl _)) rfl rfl rfl ?_
  refine ExD.take (i := 5) rfl (by kernel_rfl) (pureVal_ok rfl) ((List.Sublist.refl _)) rfl rfl rfl ?_
  refine ExD.take (i := 6) rfl (by kernel_rfl) (pureVal_ok rfl) ((List.Sublist.refl _)) rfl rfl rfl ?_
  refine ExD.take (i := 7) rfl (by kernel_rfl) (fr_load rfl rfl rfl rfl (CellO.at 0 (Reads.old hp) rfl)) ((List.Sublist.refl _)) rfl rfl rfl ?_
  refine ExD.take (i := 8) rfl (by kernel_rfl) (pureVal_ok rfl) ((List.Sublist.refl _)) rfl rfl rfl ?_
  refine ExD.take (i := 9) rfl (by kernel_rfl) (pureVal_ok rfl) ((List.Sublist.refl _)) rfl rfl rfl ?_
  refine ExD.take (i := 10) rfl (by kernel_rfl) (pureVal_ok rfl) ((List.Sublist.refl _)) rfl rfl rfl ?_
  refine ExD.take (i := 11) rfl (by kernel_rfl) (fr_loadN rfl rfl rfl rfl rfl (SegO.at 1 8 (Reads.old hp) rfl)) ((List.Sublist.refl _)) rfl rfl rfl ?_
  refine ExD.op (i := 12) rfl (by kernel_rfl) rfl (op_ret rfl rfl rfl (c_value d.stack (by first | assumption | simp_all) _ _ d.shows (by assumption) (by first | assumption | simp_all)) (Reads.get (Reads.old hd)) rfl rfl (fun x1 hx1 => ⟨(List.Sublist.refl _), ?_⟩))
  refine ExD.take (i := 13) rfl (by kernel_rfl) (fr_eql rfl rfl rfl) ((List.Sublist.refl _)) rfl rfl rfl ?_
  refine ExD.take (i := 14) rfl (by kernel_rfl) (pureVal_ok rfl) ((List.Sublist.refl _)) rfl rfl rfl ?_
  refine ExD.done (by kernel_rfl) ?_
  refine Ex.ret ?_
  refine RetQ.mk () rfl (.tmp rfl .nil) (rfl) [] (rfl) rfl (trivial)
theorem e_49 : Enters Tryz.prog 49 := Enters.of Tryz.func49 rfl
theorem c_do (d : VDev) (hk : OkDev d) (hv : validDev d = true) (Ad : Option Addr) (cd : Nat) (b : Nat) (a : VAct) (hact : validAct a = true) : Mut Tryz.prog 49 [.pointer (some ⟨b, 0, none⟩), .agg (encA a).toArray] [.blk b (encV Ad cd d) 28, .row (.slice Ad d.stack.length cd) 5 1 d.stack.length (d.stack.flatMap (eI .u8))] (fun base w0 F => True) (fun x : Unit => .tuple #[.int .i64 (doV d a).2.1, .int .i64 (doV d a).2.2]) (fun x => [.blk b (encV Ad cd (doV d a).1) 28, .row (.slice Ad d.stack.length cd) 5 1 d.stack.length (d.stack.flatMap (eI .u8))]) (fun x => True) := by
  refine Mut.of e_49 Tryz.func49 rfl Tryz.ntmps49 rfl rfl (fun base w0 F hfr => ?_)
  have hkk := hk
  have han := act_n hact
  obtain ⟨hl, hu, ha, hpp, htt⟩ := hk
  have hO := devOk ha hv
  have hvs : validStack d.stack = true := by unfold validDev at hv; rw [decide_eq_true_iff] at hv; exact hv.1
  have hvd := hO.vd
  have hm0 : maxLen = 9223372036854775807 := rfl
  have hz := sizeS hO
  have hle := hO.stk.le
  have hps := hO.stk.pos
  have hlt : 0 ≤ val d.stack d.shows.l ∧ val d.stack d.shows.l < prod d.stack := hO.v_lt
  have hpr := hO.preset
  have htk := hO.tick
  refine Ex.regSeq (ExL.pures 0 rfl ?_)
  refine ExL.op rfl (op_box rfl rfl rfl rfl rfl (fun b1 => ?_))
  refine ExL.pures 2 rfl ?_
  refine ExL.nil ?_
  refine Ex.seq ?_
  refine Ex.regSeq (ExL.pures 1 rfl ?_)
  refine ExL.free (fr_load rfl rfl rfl rfl (CellO.blk (i := 0) rfl rfl)) rfl rfl rfl ?_
  refine ExL.nil ?_
  refine Ex.block ?_
  refine Ex.regSeq (ExL.pures 0 rfl ?_)
  refine ExL.eql rfl rfl rfl rfl rfl rfl (fun h2 => ?_) (fun h2 => ?_)
  · refine ExL.pures 1 rfl ?_
    refine ExL.nil ?_
    refine Ex.cond_t rfl ?_
    refine Ex.regSeq (ExL.pures 2 rfl ?_)
    refine ExL.free (fr_load rfl rfl rfl rfl (CellO.blk (i := 0) rfl rfl)) rfl rfl rfl ?_
    refine ExL.op rfl (op_mut rfl rfl rfl (c_pulse d (by assumption) (by assumption) _ _ _ _ (1) (by omega) (by first | assumption | decide | omega)) (perm_lt (i := 1) (j := 2) rfl rfl rfl) (trivial) rfl rfl (fun x3 hx3 => ?_))
    refine ExL.pures 2 rfl ?_
    refine ExL.nil ?_
    refine Ex.ret ?_
    refine MutQ.mk () rfl (.tmp rfl (.tmp rfl .nil)) (t2 (vI (by first | (rw [do_1 (by assumption)]; first | done | rfl) | (rw [do_2 (by assumption)]; first | done | rfl) | (rw [do_3n (by assumption) (by omega)]; first | done | rfl) | (rw [do_3 (by assumption) (by omega)]; first | done | rfl) | (rw [do_4 (by assumption)]; first | done | rfl) | (rw [do_5n (by assumption) (by omega)]; first | done | rfl) | (rw [do_5 (by assumption) (by omega)]; first | done | rfl) | (rw [do_0 (by assumption) (by assumption) (by assumption) (by assumption) (by assumption)]; first | done | rfl))) (vI (by first | (rw [do_1 (by assumption)]; first | done | rfl) | (rw [do_2 (by assumption)]; first | done | rfl) | (rw [do_3n (by assumption) (by omega)]; first | done | rfl) | (rw [do_3 (by assumption) (by omega)]; first | done | rfl) | (rw [do_4 (by assumption)]; first | done | rfl) | (rw [do_5n (by assumption) (by omega)]; first | done | rfl) | (rw [do_5 (by assumption) (by omega)]; first | done | rfl) | (rw [do_0 (by assumption) (by assumption) (by assumption) (by assumption) (by assumption)]; first | done | rfl)))) 3 [0, 1] (by first | (rw [do_1 (by assumption)]; first | done | rfl) | (rw [do_2 (by assumption)]; first | done | rfl) | (rw [do_3n (by assumption) (by omega)]; first | done | rfl) | (rw [do_3 (by assumption) (by omega)]; first | done | rfl) | (rw [do_4 (by assumption)]; first | done | rfl) | (rw [do_5n (by assumption) (by omega)]; first | done | rfl) | (rw [do_5 (by assumption) (by omega)]; first | done | rfl) | (rw [do_0 (by assumption) (by assumption) (by assumption) (by assumption) (by assumption)]; first | done | rfl)) rfl (trivial)
  · refine ExL.pures 1 rfl ?_
    refine ExL.nil ?_
    refine Ex.cond_f rfl ?_
    refine Ex.regSeq (ExL.pures 0 rfl ?_)
    refine ExL.eql rfl rfl rfl rfl rfl rfl (fun h4 => ?_) (fun h4 => ?_)
    · refine ExL.pures 1 rfl ?_
      refine ExL.nil ?_
      refine Ex.cond_t rfl ?_
      refine Ex.regSeq (ExL.pures 2 rfl ?_)
      refine ExL.free (fr_load rfl rfl rfl rfl (CellO.blk (i := 0) rfl rfl)) rfl rfl rfl ?_
      refine ExL.op rfl (op_mut rfl rfl rfl (c_pulse d (by assumption) (by assumption) _ _ _ _ (-1) (by omega) (by first | assumption | decide | omega)) (perm_lt (i := 1) (j := 2) rfl rfl rfl) (trivial) rfl rfl (fun x5 hx5 => ?_))
      refine ExL.pures 2 rfl ?_
      refine ExL.nil ?_
      refine Ex.ret ?_
      refine MutQ.mk () rfl (.tmp rfl (.tmp rfl .nil)) (t2 (vI (by first | (rw [do_1 (by assumption)]; first | done | rfl) | (rw [do_2 (by assumption)]; first | done | rfl) | (rw [do_3n (by assumption) (by omega)]; first | done | rfl) | (rw [do_3 (by assumption) (by omega)]; first | done | rfl) | (rw [do_4 (by assumption)]; first | done | rfl) | (rw [do_5n (by assumption) (by omega)]; first | done | rfl) | (rw [do_5 (by assumption) (by omega)]; first | done | rfl) | (rw [do_0 (by assumption) (by assumption) (by assumption) (by assumption) (by assumption)]; first | done | rfl))) (vI (by first | (rw [do_1 (by assumption)]; first | done | rfl) | (rw [do_2 (by assumption)]; first | done | rfl) | (rw [do_3n (by assumption) (by omega)]; first | done | rfl) | (rw [do_3 (by assumption) (by omega)]; first | done | rfl) | (rw [do_4 (by assumption)]; first | done | rfl) | (rw [do_5n (by assumption) (by omega)]; first | done | rfl) | (rw [do_5 (by assumption) (by omega)]; first | done | rfl) | (rw [do_0 (by assumption) (by assumption) (by assumption) (by assumption) (by assumption)]; first | done | rfl)))) 3 [0, 1] (by first | (rw [do_1 (by assumption)]; first | done | rfl) | (rw [do_2 (by assumption)]; first | done | rfl) | (rw [do_3n (by assumption) (by omega)]; first | done | rfl) | (rw [do_3 (by assumption) (by omega)]; first | done | rfl) | (rw [do_4 (by assumption)]; first | done | rfl) | (rw [do_5n (by assumption) (by omega)]; first | done | rfl) | (rw [do_5 (by assumption) (by omega)]; first | done | rfl) | (rw [do_0 (by assumption) (by assumption) (by assumption) (by assumption) (by assumption)]; first | done | rfl)) rfl (trivial)
    · refine ExL.pures 1 rfl ?_
      refine ExL.nil ?_
      refine Ex.cond_f rfl ?_
      refine Ex.regSeq (ExL.pures 0 rfl ?_)
      refine ExL.eql rfl rfl rfl rfl rfl rfl (fun h6 => ?_) (fun h6 => ?_)
      · refine ExL.pures 1 rfl ?_
        refine ExL.nil ?_
        refine Ex.cond_t rfl ?_
        refine Ex.seq ?_
        refine Ex.drawSeqM rfl ?_
        refine ExD.take (i := 0) rfl (by kernel_rfl) (pureVal_ok rfl) ((List.Sublist.refl _)) rfl rfl rfl ?_
        refine ExD.take (i := 1) rfl (by kernel_rfl) (fr_load rfl rfl rfl rfl (CellO.blk (i := 0) rfl rfl)) ((List.Sublist.refl _)) rfl rfl rfl ?_
        refine ExD.cmp_neq (i := 2) rfl (by kernel_rfl) rfl rfl rfl ((List.Sublist.refl _)) rfl rfl rfl (fun h7 => ?_) (fun h7 => ?_)
        · refine ExD.take (i := 3) rfl (by kernel_rfl) (pureVal_ok rfl) ((List.Sublist.refl _)) rfl rfl rfl ?_
          refine ExD.take (i := 4) rfl (by kernel_rfl) (pureVal_ok rfl) ((List.Sublist.refl _)) rfl rfl rfl ?_
          refine ExD.take (i := 5) rfl (by kernel_rfl) (pureVal_ok rfl) ((List.Sublist.refl _)) rfl rfl rfl ?_
          refine ExD.take (i := 6) rfl (by kernel_rfl) (pureVal_ok rfl) ((List.Sublist.refl _)) rfl rfl rfl ?_
          refine ExD.take (i := 7) rfl (by kernel_rfl) (fr_load rfl rfl rfl rfl (CellO.blk (i := 1) rfl rfl)) ((List.Sublist.refl _)) rfl rfl rfl ?_
          refine ExD.take (i := 8) rfl (by kernel_rfl) (pureVal_ok rfl) ((List.Sublist.refl _)) rfl rfl rfl ?_
          refine ExD.take (i := 9) rfl (by kernel_rfl) (fr_load rfl rfl rfl rfl (CellO.blk (i := 0) rfl rfl)) ((List.Sublist.refl _)) rfl rfl rfl ?_
          refine ExD.op (i := 10) rfl (by kernel_rfl) rfl (op_ret rfl rfl rfl (c_hasValue d.stack (by assumption) _ _ (by omega) _) (Reads.get (Reads.row (i := 2) rfl)) rfl rfl (fun x8 hx8 => ⟨(List.Sublist.refl _), ?_⟩))
          refine ExD.take (i := 11) rfl (by kernel_rfl) (pureVal_ok rfl) ((List.Sublist.refl _)) rfl rfl rfl ?_
          refine ExD.take (i := 12) rfl (by kernel_rfl) (pureVal_ok rfl) ((List.Sublist.refl _)) rfl rfl rfl ?_
          refine ExD.done (by kernel_rfl) ?_
          refine Ex.cond rfl (fun hb9 => ?_) (fun hb9 => ?_)
          · replace hb9 := nd_t hb9
            refine Ex.regSeq (ExL.pures 2 rfl ?_)
            refine ExL.nil ?_
            refine Ex.ret ?_
            refine MutQ.mk () rfl (.tmp rfl (.tmp rfl .nil)) (t2 (vI (by first | (rw [do_1 (by assumption)]; first | done | rfl) | (rw [do_2 (by assumption)]; first | done | rfl) | (rw [do_3n (by assumption) (by omega)]; first | done | rfl) | (rw [do_3 (by assumption) (by omega)]; first | done | rfl) | (rw [do_4 (by assumption)]; first | done | rfl) | (rw [do_5n (by assumption) (by omega)]; first | done | rfl) | (rw [do_5 (by assumption) (by omega)]; first | done | rfl) | (rw [do_0 (by assumption) (by assumption) (by assumption) (by assumption) (by assumption)]; first | done | rfl))) (vI (by first | (rw [do_1 (by assumption)]; first | done | rfl) | (rw [do_2 (by assumption)]; first | done | rfl) | (rw [do_3n (by assumption) (by omega)]; first | done | rfl) | (rw [do_3 (by assumption) (by omega)]; first | done | rfl) | (rw [do_4 (by assumption)]; first | done | rfl) | (rw [do_5n (by assumption) (by omega)]; first | done | rfl) | (rw [do_5 (by assumption) (by omega)]; first | done | rfl) | (rw [do_0 (by assumption) (by assumption) (by assumption) (by assumption) (by assumption)]; first | done | rfl)))) 3 [1, 2] (by first | (rw [do_1 (by assumption)]; first | done | rfl) | (rw [do_2 (by assumption)]; first | done | rfl) | (rw [do_3n (by assumption) (by omega)]; first | done | rfl) | (rw [do_3 (by assumption) (by omega)]; first | done | rfl) | (rw [do_4 (by assumption)]; first | done | rfl) | (rw [do_5n (by assumption) (by omega)]; first | done | rfl) | (rw [do_5 (by assumption) (by omega)]; first | done | rfl) | (rw [do_0 (by assumption) (by assumption) (by assumption) (by assumption) (by assumption)]; first | done | rfl)) rfl (trivial)
          · replace hb9 := nd_f hb9
            refine Ex.skip ?_
            refine Ex.regSeq (ExL.pures 2 rfl ?_)
            refine ExL.free (fr_load rfl rfl rfl rfl (CellO.blk (i := 0) rfl rfl)) rfl rfl rfl ?_
            refine ExL.pures 2 rfl ?_
            refine ExL.op rfl (op_storeC (i := 1) rfl rfl rfl rfl rfl rfl rfl rfl rfl rfl ?_)
            refine ExL.nil ?_
            refine Ex.region (ExL.pures 2 rfl ?_)
            refine ExL.op rfl (op_ret rfl rfl rfl (c_shows (⟨d.stack, d.shows, a.n, d.stopped, d.tickets⟩ : VDev) (by assumption) (by assumption) (by assumption) _ _ _) (fun w hw => ⟨Reads.get (Reads.blk (i := 1) rfl) w hw, Reads.get (Reads.row (i := 2) rfl) w hw⟩) rfl rfl (fun x10 hx10 => ?_))
            refine ExL.pures 2 rfl ?_
            refine ExL.op rfl (op_storeC (i := 1) rfl rfl rfl rfl rfl rfl rfl rfl rfl rfl ?_)
            refine ExL.nil ?_
            refine Ex.regSeq (ExL.pures 2 rfl ?_)
            refine ExL.nil ?_
            refine Ex.ret ?_
            refine MutQ.mk () rfl (.tmp rfl (.tmp rfl .nil)) (t2 (vI (by first | (rw [do_1 (by assumption)]; first | done | rfl) | (rw [do_2 (by assumption)]; first | done | rfl) | (rw [do_3n (by assumption) (by omega)]; first | done | rfl) | (rw [do_3 (by assumption) (by omega)]; first | done | rfl) | (rw [do_4 (by assumption)]; first | done | rfl) | (rw [do_5n (by assumption) (by omega)]; first | done | rfl) | (rw [do_5 (by assumption) (by omega)]; first | done | rfl) | (rw [do_0 (by assumption) (by assumption) (by assumption) (by assumption) (by assumption)]; first | done | rfl))) (vI (by first | (rw [do_1 (by assumption)]; first | done | rfl) | (rw [do_2 (by assumption)]; first | done | rfl) | (rw [do_3n (by assumption) (by omega)]; first | done | rfl) | (rw [do_3 (by assumption) (by omega)]; first | done | rfl) | (rw [do_4 (by assumption)]; first | done | rfl) | (rw [do_5n (by assumption) (by omega)]; first | done | rfl) | (rw [do_5 (by assumption) (by omega)]; first | done | rfl) | (rw [do_0 (by assumption) (by assumption) (by assumption) (by assumption) (by assumption)]; first | done | rfl)))) 3 [1, 2] (by first | (rw [do_1 (by assumption)]; first | done | rfl) | (rw [do_2 (by assumption)]; first | done | rfl) | (rw [do_3n (by assumption) (by omega)]; first | done | rfl) | (rw [do_3 (by assumption) (by omega)]; first | done | rfl) | (rw [do_4 (by assumption)]; first | done | rfl) | (rw [do_5n (by assumption) (by omega)]; first | done | rfl) | (rw [do_5 (by assumption) (by omega)]; first | done | rfl) | (rw [do_0 (by assumption) (by assumption) (by assumption) (by assumption) (by assumption)]; first | done | rfl)) rfl (trivial)
        · refine ExD.take (i := 3) rfl (by kernel_rfl) (pureVal_ok rfl) ((List.Sublist.refl _)) rfl rfl rfl ?_
          refine ExD.pass (i := 4) rfl (by kernel_rfl) ((List.Sublist.refl _)) rfl rfl rfl ?_
          refine ExD.pass (i := 5) rfl (by kernel_rfl) ((List.Sublist.refl _)) rfl rfl rfl ?_
          refine ExD.pass (i := 6) rfl (by kernel_rfl) ((List.Sublist.refl _)) rfl rfl rfl ?_
          refine ExD.pass (i := 7) rfl (by kernel_rfl) ((List.Sublist.refl _)) rfl rfl rfl ?_
          refine ExD.pass (i := 8) rfl (by kernel_rfl) ((List.Sublist.refl _)) rfl rfl rfl ?_
          refine ExD.pass (i := 9) rfl (by kernel_rfl) ((List.Sublist.refl _)) rfl rfl rfl ?_
          refine ExD.pass (i := 10) rfl (by kernel_rfl) ((List.Sublist.refl _)) rfl rfl rfl ?_
          refine ExD.pass (i := 11) rfl (by kernel_rfl) ((List.Sublist.refl _)) rfl rfl rfl ?_
          refine ExD.take (i := 12) rfl (by kernel_rfl) (pureVal_ok rfl) ((List.Sublist.refl _)) rfl rfl rfl ?_
          refine ExD.done (by kernel_rfl) ?_
          refine Ex.cond_f rfl ?_
          refine Ex.skip ?_
          refine Ex.regSeq (ExL.pures 2 rfl ?_)
          refine ExL.free (fr_load rfl rfl rfl rfl (CellO.blk (i := 0) rfl rfl)) rfl rfl rfl ?_
          refine ExL.pures 2 rfl ?_
          refine ExL.op rfl (op_storeC (i := 1) rfl rfl rfl rfl rfl rfl rfl rfl rfl rfl ?_)
          refine ExL.nil ?_
          refine Ex.region (ExL.pures 2 rfl ?_)
          refine ExL.op rfl (op_ret rfl rfl rfl (c_shows (⟨d.stack, d.shows, a.n, d.stopped, d.tickets⟩ : VDev) (by assumption) (by assumption) (by assumption) _ _ _) (fun w hw => ⟨Reads.get (Reads.blk (i := 1) rfl) w hw, Reads.get (Reads.row (i := 2) rfl) w hw⟩) rfl rfl (fun x11 hx11 => ?_))
          refine ExL.pures 2 rfl ?_
          refine ExL.op rfl (op_storeC (i := 1) rfl rfl rfl rfl rfl rfl rfl rfl rfl rfl ?_)
          refine ExL.nil ?_
          refine Ex.regSeq (ExL.pures 2 rfl ?_)
          refine ExL.nil ?_
          refine Ex.ret ?_
          refine MutQ.mk () rfl (.tmp rfl (.tmp rfl .nil)) (t2 (vI (by first | (rw [do_1 (by assumption)]; first | done | rfl) | (rw [do_2 (by assumption)]; first | done | rfl) | (rw [do_3n (by assumption) (by omega)]; first | done | rfl) | (rw [do_3 (by assumption) (by omega)]; first | done | rfl) | (rw [do_4 (by assumption)]; first | done | rfl) | (rw [do_5n (by assumption) (by omega)]; first | done | rfl) | (rw [do_5 (by assumption) (by omega)]; first | done | rfl) | (rw [do_0 (by assumption) (by assumption) (by assumption) (by assumption) (by assumption)]; first | done | rfl))) (vI (by first | (rw [do_1 (by assumption)]; first | done | rfl) | (rw [do_2 (by assumption)]; first | done | rfl) | (rw [do_3n (by assumption) (by omega)]; first | done | rfl) | (rw [do_3 (by assumption) (by omega)]; first | done | rfl) | (rw [do_4 (by assumption)]; first | done | rfl) | (rw [do_5n (by assumption) (by omega)]; first | done | rfl) | (rw [do_5 (by assumption) (by omega)]; first | done | rfl) | (rw [do_0 (by assumption) (by assumption) (by assumption) (by assumption) (by assumption)]; first | done | rfl)))) 3 [1, 2] (by first | (rw [do_1 (by assumption)]; first | done | rfl) | (rw [do_2 (by assumption)]; first | done | rfl) | (rw [do_3n (by assumption) (by omega)]; first | done | rfl) | (rw [do_3 (by assumption) (by omega)]; first | done | rfl) | (rw [do_4 (by assumption)]; first | done | rfl) | (rw [do_5n (by assumption) (by omega)]; first | done | rfl) | (rw [do_5 (by assumption) (by omega)]; first | done | rfl) | (rw [do_0 (by assumption) (by assumption) (by assumption) (by assumption) (by assumption)]; first | done | rfl)) rfl (trivial)
      · refine ExL.pures 1 rfl ?_
        refine ExL.nil ?_
        refine Ex.cond_f rfl ?_
        refine Ex.regSeq (ExL.pures 0 rfl ?_)
        refine ExL.eql rfl rfl rfl rfl rfl rfl (fun h12 => ?_) (fun h12 => ?_)
        · refine ExL.pures 1 rfl ?_
          refine ExL.nil ?_
          refine Ex.cond_t rfl ?_
          refine Ex.regSeq (ExL.pures 1 rfl ?_)
          refine ExL.free (fr_build rfl rfl rfl rfl) rfl rfl rfl ?_
          refine ExL.pures 2 rfl ?_
          refine ExL.op rfl (op_storeC (i := 1) rfl rfl rfl rfl rfl rfl rfl rfl rfl rfl ?_)
          refine ExL.nil ?_
          refine Ex.region (ExL.pures 4 rfl ?_)
          refine ExL.free (fr_load rfl rfl rfl rfl (CellO.blk (i := 1) rfl rfl)) rfl rfl rfl ?_
          refine ExL.free (fr_eql rfl rfl rfl) rfl rfl rfl ?_
          refine ExL.pures 2 rfl ?_
          refine ExL.op rfl (op_storeC (i := 1) rfl rfl rfl rfl rfl rfl rfl rfl rfl rfl ?_)
          refine ExL.nil ?_
          refine Ex.regSeq (ExL.pures 2 rfl ?_)
          refine ExL.nil ?_
          refine Ex.ret ?_
          refine MutQ.mk () rfl (.tmp rfl (.tmp rfl .nil)) (t2 (vI (by first | (rw [do_1 (by assumption)]; first | done | rfl) | (rw [do_2 (by assumption)]; first | done | rfl) | (rw [do_3n (by assumption) (by omega)]; first | done | rfl) | (rw [do_3 (by assumption) (by omega)]; first | done | rfl) | (rw [do_4 (by assumption)]; first | done | rfl) | (rw [do_5n (by assumption) (by omega)]; first | done | rfl) | (rw [do_5 (by assumption) (by omega)]; first | done | rfl) | (rw [do_0 (by assumption) (by assumption) (by assumption) (by assumption) (by assumption)]; first | done | rfl))) (vI (by first | (rw [do_1 (by assumption)]; first | done | rfl) | (rw [do_2 (by assumption)]; first | done | rfl) | (rw [do_3n (by assumption) (by omega)]; first | done | rfl) | (rw [do_3 (by assumption) (by omega)]; first | done | rfl) | (rw [do_4 (by assumption)]; first | done | rfl) | (rw [do_5n (by assumption) (by omega)]; first | done | rfl) | (rw [do_5 (by assumption) (by omega)]; first | done | rfl) | (rw [do_0 (by assumption) (by assumption) (by assumption) (by assumption) (by assumption)]; first | done | rfl)))) 3 [1, 2] (by first | (rw [do_1 (by assumption)]; first | done | rfl) | (rw [do_2 (by assumption)]; first | done | rfl) | (rw [do_3n (by assumption) (by omega)]; first | done | rfl) | (rw [do_3 (by assumption) (by omega)]; first | done | rfl) | (rw [do_4 (by assumption)]; first | done | rfl) | (rw [do_5n (by assumption) (by omega)]; first | done | rfl) | (rw [do_5 (by assumption) (by omega)]; first | done | rfl) | (rw [do_0 (by assumption) (by assumption) (by assumption) (by assumption) (by assumption)]; first | done | rfl)) rfl (trivial)
        · refine ExL.pures 1 rfl ?_
          refine ExL.nil ?_
          refine Ex.cond_f rfl ?_
          refine Ex.regSeq (ExL.pures 0 rfl ?_)
          refine ExL.eql rfl rfl rfl rfl rfl rfl (fun h13 => ?_) (fun h13 => ?_)
          · refine ExL.pures 1 rfl ?_
            refine ExL.nil ?_
            refine Ex.cond_t rfl ?_
            refine Ex.seq ?_
            refine Ex.regSeq (ExL.pures 3 rfl ?_)
            refine ExL.free (fr_load rfl rfl rfl rfl (CellO.blk (i := 1) rfl rfl)) rfl rfl rfl ?_
            refine ExL.eql rfl rfl rfl rfl rfl rfl (fun h14 => ?_) (fun h14 => ?_)
            · refine ExL.nil ?_
              refine Ex.cond_t rfl ?_
              refine Ex.regSeq (ExL.pures 2 rfl ?_)
              refine ExL.nil ?_
              refine Ex.ret ?_
              refine MutQ.mk () rfl (.tmp rfl (.tmp rfl .nil)) (t2 (vI (by first | (rw [do_1 (by assumption)]; first | done | rfl) | (rw [do_2 (by assumption)]; first | done | rfl) | (rw [do_3n (by assumption) (by omega)]; first | done | rfl) | (rw [do_3 (by assumption) (by omega)]; first | done | rfl) | (rw [do_4 (by assumption)]; first | done | rfl) | (rw [do_5n (by assumption) (by omega)]; first | done | rfl) | (rw [do_5 (by assumption) (by omega)]; first | done | rfl) | (rw [do_0 (by assumption) (by assumption) (by assumption) (by assumption) (by assumption)]; first | done | rfl))) (vI (by first | (rw [do_1 (by assumption)]; first | done | rfl) | (rw [do_2 (by assumption)]; first | done | rfl) | (rw [do_3n (by assumption) (by omega)]; first | done | rfl) | (rw [do_3 (by assumption) (by omega)]; first | done | rfl) | (rw [do_4 (by assumption)]; first | done | rfl) | (rw [do_5n (by assumption) (by omega)]; first | done | rfl) | (rw [do_5 (by assumption) (by omega)]; first | done | rfl) | (rw [do_0 (by assumption) (by assumption) (by assumption) (by assumption) (by assumption)]; first | done | rfl)))) 3 [1, 2] (by first | (rw [do_1 (by assumption)]; first | done | rfl) | (rw [do_2 (by assumption)]; first | done | rfl) | (rw [do_3n (by assumption) (by omega)]; first | done | rfl) | (rw [do_3 (by assumption) (by omega)]; first | done | rfl) | (rw [do_4 (by assumption)]; first | done | rfl) | (rw [do_5n (by assumption) (by omega)]; first | done | rfl) | (rw [do_5 (by assumption) (by omega)]; first | done | rfl) | (rw [do_0 (by assumption) (by assumption) (by assumption) (by assumption) (by assumption)]; first | done | rfl)) rfl (trivial)
            · refine ExL.nil ?_
              refine Ex.cond_f rfl ?_
              refine Ex.skip ?_
              refine Ex.region (ExL.pures 3 rfl ?_)
              refine ExL.free (fr_load rfl rfl rfl rfl (CellO.blk (i := 1) rfl rfl)) rfl rfl rfl ?_
              refine ExL.free (by first | exact fr_add64 rfl rfl rfl (by omega) | exact fr_add rfl rfl rfl) rfl rfl rfl ?_
              refine ExL.pures 2 rfl ?_
              refine ExL.op rfl (op_storeC (i := 1) rfl rfl rfl rfl rfl rfl rfl rfl rfl rfl ?_)
              refine ExL.nil ?_
              refine Ex.regSeq (ExL.pures 2 rfl ?_)
              refine ExL.nil ?_
              refine Ex.ret ?_
              refine MutQ.mk () rfl (.tmp rfl (.tmp rfl .nil)) (t2 (vI (by first | (rw [do_1 (by assumption)]; first | done | rfl) | (rw [do_2 (by assumption)]; first | done | rfl) | (rw [do_3n (by assumption) (by omega)]; first | done | rfl) | (rw [do_3 (by assumption) (by omega)]; first | done | rfl) | (rw [do_4 (by assumption)]; first | done | rfl) | (rw [do_5n (by assumption) (by omega)]; first | done | rfl) | (rw [do_5 (by assumption) (by omega)]; first | done | rfl) | (rw [do_0 (by assumption) (by assumption) (by assumption) (by assumption) (by assumption)]; first | done | rfl))) (vI (by first | (rw [do_1 (by assumption)]; first | done | rfl) | (rw [do_2 (by assumption)]; first | done | rfl) | (rw [do_3n (by assumption) (by omega)]; first | done | rfl) | (rw [do_3 (by assumption) (by omega)]; first | done | rfl) | (rw [do_4 (by assumption)]; first | done | rfl) | (rw [do_5n (by assumption) (by omega)]; first | done | rfl) | (rw [do_5 (by assumption) (by omega)]; first | done | rfl) | (rw [do_0 (by assumption) (by assumption) (by assumption) (by assumption) (by assumption)]; first | done | rfl)))) 3 [1, 2] (by first | (rw [do_1 (by assumption)]; first | done | rfl) | (rw [do_2 (by assumption)]; first | done | rfl) | (rw [do_3n (by assumption) (by omega)]; first | done | rfl) | (rw [do_3 (by assumption) (by omega)]; first | done | rfl) | (rw [do_4 (by assumption)]; first | done | rfl) | (rw [do_5n (by assumption) (by omega)]; first | done | rfl) | (rw [do_5 (by assumption) (by omega)]; first | done | rfl) | (rw [do_0 (by assumption) (by assumption) (by assumption) (by assumption) (by assumption)]; first | done | rfl)) rfl (trivial)
          · refine ExL.pures 1 rfl ?_
            refine ExL.nil ?_
            refine Ex.cond_f rfl ?_
            refine Ex.skip ?_
            refine Ex.regSeq (ExL.pures 2 rfl ?_)
            refine ExL.nil ?_
            refine Ex.ret ?_
            refine MutQ.mk () rfl (.tmp rfl (.tmp rfl .nil)) (t2 (vI (by first | (rw [do_1 (by assumption)]; first | done | rfl) | (rw [do_2 (by assumption)]; first | done | rfl) | (rw [do_3n (by assumption) (by omega)]; first | done | rfl) | (rw [do_3 (by assumption) (by omega)]; first | done | rfl) | (rw [do_4 (by assumption)]; first | done | rfl) | (rw [do_5n (by assumption) (by omega)]; first | done | rfl) | (rw [do_5 (by assumption) (by omega)]; first | done | rfl) | (rw [do_0 (by assumption) (by assumption) (by assumption) (by assumption) (by assumption)]; first | done | rfl))) (vI (by first | (rw [do_1 (by assumption)]; first | done | rfl) | (rw [do_2 (by assumption)]; first | done | rfl) | (rw [do_3n (by assumption) (by omega)]; first | done | rfl) | (rw [do_3 (by assumption) (by omega)]; first | done | rfl) | (rw [do_4 (by assumption)]; first | done | rfl) | (rw [do_5n (by assumption) (by omega)]; first | done | rfl) | (rw [do_5 (by assumption) (by omega)]; first | done | rfl) | (rw [do_0 (by assumption) (by assumption) (by assumption) (by assumption) (by assumption)]; first | done | rfl)))) 3 [1, 2] (by first | (rw [do_1 (by assumption)]; first | done | rfl) | (rw [do_2 (by assumption)]; first | done | rfl) | (rw [do_3n (by assumption) (by omega)]; first | done | rfl) | (rw [do_3 (by assumption) (by omega)]; first | done | rfl) | (rw [do_4 (by assumption)]; first | done | rfl) | (rw [do_5n (by assumption) (by omega)]; first | done | rfl) | (rw [do_5 (by assumption) (by omega)]; first | done | rfl) | (rw [do_0 (by assumption) (by assumption) (by assumption) (by assumption) (by assumption)]; first | done | rfl)) rfl (trivial)
theorem e_52 : Enters Tryz.prog 52 := Enters.of Tryz.func52 rfl
theorem c_l07Do (d : VDev) (hk : OkDev d) (hv : validDev d = true) (Ad : Option Addr) (cd : Nat) (b : Nat) (a : VAct) (hact : validAct a = true) : Mut Tryz.prog 52 [.pointer (some ⟨b, 0, none⟩), .agg (encA a).toArray] [.blk b (encV Ad cd d) 28, .row (.slice Ad d.stack.length cd) 5 1 d.stack.length (d.stack.flatMap (eI .u8))] (fun base w0 F => True) (fun x : Unit => .tuple #[.int .i64 (doV d a).2.1, .int .i64 (doV d a).2.2]) (fun x => [.blk b (encV Ad cd (doV d a).1) 28, .row (.slice Ad d.stack.length cd) 5 1 d.stack.length (d.stack.flatMap (eI .u8))]) (fun x => True) := by
  refine Mut.of e_52 Tryz.func52 rfl Tryz.ntmps52 rfl rfl (fun base w0 F hfr => ?_)
  have hkk := hk
  have han := act_n hact
  obtain ⟨hl, hu, ha, hpp, htt⟩ := hk
  have hO := devOk ha hv
  have hvs : validStack d.stack = true := by unfold validDev at hv; rw [decide_eq_true_iff] at hv; exact hv.1
  have hvd := hO.vd
  have hm0 : maxLen = 9223372036854775807 := rfl
  have hz := sizeS hO
  have hle := hO.stk.le
  have hps := hO.stk.pos
  have hlt : 0 ≤ val d.stack d.shows.l ∧ val d.stack d.shows.l < prod d.stack := hO.v_lt
  have hpr := hO.preset
  have htk := hO.tick
  refine Ex.regSeq (ExL.pures 0 rfl ?_)
  refine ExL.op rfl (op_box rfl rfl rfl rfl rfl (fun b1 => ?_))
  refine ExL.pures 2 rfl ?_
  refine ExL.nil ?_
  refine Ex.seq ?_
  refine Ex.regSeq (ExL.pures 1 rfl ?_)
  refine ExL.free (fr_load rfl rfl rfl rfl (CellO.blk (i := 0) rfl rfl)) rfl rfl rfl ?_
  refine ExL.nil ?_
  refine Ex.block ?_
  refine Ex.regSeq (ExL.pures 0 rfl ?_)
  refine ExL.eql rfl rfl rfl rfl rfl rfl (fun h2 => ?_) (fun h2 => ?_)
  · refine ExL.pures 1 rfl ?_
    refine ExL.nil ?_
    refine Ex.cond_t rfl ?_
    refine Ex.regSeq (ExL.pures 2 rfl ?_)
    refine ExL.free (fr_load rfl rfl rfl rfl (CellO.blk (i := 0) rfl rfl)) rfl rfl rfl ?_
    refine ExL.op rfl (op_mut rfl rfl rfl (c_l07Count_f d (by assumption) (by assumption) _ _ _ _ (by omega)) (perm_lt (i := 1) (j := 2) rfl rfl rfl) (trivial) rfl rfl (fun x3 hx3 => ?_))
    refine ExL.pures 2 rfl ?_
    refine ExL.nil ?_
    refine Ex.ret ?_
    refine MutQ.mk () rfl (.tmp rfl (.tmp rfl .nil)) (t2 (vI (by first | (rw [do_1 (by assumption)]; first | done | rfl) | (rw [do_2 (by assumption)]; first | done | rfl) | (rw [do_3n (by assumption) (by omega)]; first | done | rfl) | (rw [do_3 (by assumption) (by omega)]; first | done | rfl) | (rw [do_4 (by assumption)]; first | done | rfl) | (rw [do_5n (by assumption) (by omega)]; first | done | rfl) | (rw [do_5 (by assumption) (by omega)]; first | done | rfl) | (rw [do_0 (by assumption) (by assumption) (by assumption) (by assumption) (by assumption)]; first | done | rfl))) (vI (by first | (rw [do_1 (by assumption)]; first | done | rfl) | (rw [do_2 (by assumption)]; first | done | rfl) | (rw [do_3n (by assumption) (by omega)]; first | done | rfl) | (rw [do_3 (by assumption) (by omega)]; first | done | rfl) | (rw [do_4 (by assumption)]; first | done | rfl) | (rw [do_5n (by assumption) (by omega)]; first | done | rfl) | (rw [do_5 (by assumption) (by omega)]; first | done | rfl) | (rw [do_0 (by assumption) (by assumption) (by assumption) (by assumption) (by assumption)]; first | done | rfl)))) 3 [0, 1] (by first | (rw [do_1 (by assumption)]; first | done | rfl) | (rw [do_2 (by assumption)]; first | done | rfl) | (rw [do_3n (by assumption) (by omega)]; first | done | rfl) | (rw [do_3 (by assumption) (by omega)]; first | done | rfl) | (rw [do_4 (by assumption)]; first | done | rfl) | (rw [do_5n (by assumption) (by omega)]; first | done | rfl) | (rw [do_5 (by assumption) (by omega)]; first | done | rfl) | (rw [do_0 (by assumption) (by assumption) (by assumption) (by assumption) (by assumption)]; first | done | rfl)) rfl (trivial)
  · refine ExL.pures 1 rfl ?_
    refine ExL.nil ?_
    refine Ex.cond_f rfl ?_
    refine Ex.regSeq (ExL.pures 0 rfl ?_)
    refine ExL.eql rfl rfl rfl rfl rfl rfl (fun h4 => ?_) (fun h4 => ?_)
    · refine ExL.pures 1 rfl ?_
      refine ExL.nil ?_
      refine Ex.cond_t rfl ?_
      refine Ex.regSeq (ExL.pures 2 rfl ?_)
      refine ExL.free (fr_load rfl rfl rfl rfl (CellO.blk (i := 0) rfl rfl)) rfl rfl rfl ?_
      refine ExL.op rfl (op_mut rfl rfl rfl (c_l07Count_t d (by assumption) (by assumption) _ _ _ _ (by omega)) (perm_lt (i := 1) (j := 2) rfl rfl rfl) (trivial) rfl rfl (fun x5 hx5 => ?_))
      refine ExL.pures 2 rfl ?_
      refine ExL.nil ?_
      refine Ex.ret ?_
      refine MutQ.mk () rfl (.tmp rfl (.tmp rfl .nil)) (t2 (vI (by first | (rw [do_1 (by assumption)]; first | done | rfl) | (rw [do_2 (by assumption)]; first | done | rfl) | (rw [do_3n (by assumption) (by omega)]; first | done | rfl) | (rw [do_3 (by assumption) (by omega)]; first | done | rfl) | (rw [do_4 (by assumption)]; first | done | rfl) | (rw [do_5n (by assumption) (by omega)]; first | done | rfl) | (rw [do_5 (by assumption) (by omega)]; first | done | rfl) | (rw [do_0 (by assumption) (by assumption) (by assumption) (by assumption) (by assumption)]; first | done | rfl))) (vI (by first | (rw [do_1 (by assumption)]; first | done | rfl) | (rw [do_2 (by assumption)]; first | done | rfl) | (rw [do_3n (by assumption) (by omega)]; first | done | rfl) | (rw [do_3 (by assumption) (by omega)]; first | done | rfl) | (rw [do_4 (by assumption)]; first | done | rfl) | (rw [do_5n (by assumption) (by omega)]; first | done | rfl) | (rw [do_5 (by assumption) (by omega)]; first | done | rfl) | (rw [do_0 (by assumption) (by assumption) (by assumption) (by assumption) (by assumption)]; first | done | rfl)))) 3 [0, 1] (by first | (rw [do_1 (by assumption)]; first | done | rfl) | (rw [do_2 (by assumption)]; first | done | rfl) | (rw [do_3n (by assumption) (by omega)]; first | done | rfl) | (rw [do_3 (by assumption) (by omega)]; first | done | rfl) | (rw [do_4 (by assumption)]; first | done | rfl) | (rw [do_5n (by assumption) (by omega)]; first | done | rfl) | (rw [do_5 (by assumption) (by omega)]; first | done | rfl) | (rw [do_0 (by assumption) (by assumption) (by assumption) (by assumption) (by assumption)]; first | done | rfl)) rfl (trivial)
    · refine ExL.pures 1 rfl ?_
      refine ExL.nil ?_
      refine Ex.cond_f rfl ?_
      refine Ex.regSeq (ExL.pures 0 rfl ?_)
      refine ExL.eql rfl rfl rfl rfl rfl rfl (fun h6 => ?_) (fun h6 => ?_)
      · refine ExL.pures 1 rfl ?_
        refine ExL.nil ?_
        refine Ex.cond_t rfl ?_
        refine Ex.seq ?_
        refine Ex.drawSeqM rfl ?_
        refine ExD.take (i := 0) rfl (by kernel_rfl) (pureVal_ok rfl) ((List.Sublist.refl _)) rfl rfl rfl ?_
        refine ExD.take (i := 1) rfl (by kernel_rfl) (fr_load rfl rfl rfl rfl (CellO.blk (i := 0) rfl rfl)) ((List.Sublist.refl _)) rfl rfl rfl ?_
        refine ExD.take (i := 2) rfl (by kernel_rfl) (pureVal_ok rfl) ((List.Sublist.refl _)) rfl rfl rfl ?_
        refine ExD.take (i := 3) rfl (by kernel_rfl) (pureVal_ok rfl) ((List.Sublist.refl _)) rfl rfl rfl ?_
        refine ExD.take (i := 4) rfl (by kernel_rfl) (pureVal_ok rfl) ((List.Sublist.refl _)) rfl rfl rfl ?_
        refine ExD.take (i := 5) rfl (by kernel_rfl) (fr_load rfl rfl rfl rfl (CellO.blk (i := 1) rfl rfl)) ((List.Sublist.refl _)) rfl rfl rfl ?_
        refine ExD.op (i := 6) rfl (by kernel_rfl) rfl (op_ret rfl rfl rfl (c_l01Size _ (by assumption) _ _ (by first | assumption | omega | (unfold maxLen; omega))) (Reads.get (Reads.row (i := 2) rfl)) rfl rfl (fun x7 hx7 => ⟨(List.Sublist.refl _), ?_⟩))
        refine ExD.cmp_geq (i := 7) rfl (by kernel_rfl) rfl rfl rfl ((List.Sublist.refl _)) rfl rfl rfl (fun h8 => ?_) (fun h8 => ?_)
        · refine ExD.done (by kernel_rfl) ?_
          refine Ex.cond_t rfl ?_
          refine Ex.regSeq (ExL.pures 2 rfl ?_)
          refine ExL.nil ?_
          refine Ex.ret ?_
          refine MutQ.mk () rfl (.tmp rfl (.tmp rfl .nil)) (t2 (vI (by first | (rw [do_1 (by assumption)]; first | done | rfl) | (rw [do_2 (by assumption)]; first | done | rfl) | (rw [do_3n (by assumption) (by omega)]; first | done | rfl) | (rw [do_3 (by assumption) (by omega)]; first | done | rfl) | (rw [do_4 (by assumption)]; first | done | rfl) | (rw [do_5n (by assumption) (by omega)]; first | done | rfl) | (rw [do_5 (by assumption) (by omega)]; first | done | rfl) | (rw [do_0 (by assumption) (by assumption) (by assumption) (by assumption) (by assumption)]; first | done | rfl))) (vI (by first | (rw [do_1 (by assumption)]; first | done | rfl) | (rw [do_2 (by assumption)]; first | done | rfl) | (rw [do_3n (by assumption) (by omega)]; first | done | rfl) | (rw [do_3 (by assumption) (by omega)]; first | done | rfl) | (rw [do_4 (by assumption)]; first | done | rfl) | (rw [do_5n (by assumption) (by omega)]; first | done | rfl) | (rw [do_5 (by assumption) (by omega)]; first | done | rfl) | (rw [do_0 (by assumption) (by assumption) (by assumption) (by assumption) (by assumption)]; first | done | rfl)))) 3 [1, 2] (by first | (rw [do_1 (by assumption)]; first | done | rfl) | (rw [do_2 (by assumption)]; first | done | rfl) | (rw [do_3n (by assumption) (by omega)]; first | done | rfl) | (rw [do_3 (by assumption) (by omega)]; first | done | rfl) | (rw [do_4 (by assumption)]; first | done | rfl) | (rw [do_5n (by assumption) (by omega)]; first | done | rfl) | (rw [do_5 (by assumption) (by omega)]; first | done | rfl) | (rw [do_0 (by assumption) (by assumption) (by assumption) (by assumption) (by assumption)]; first | done | rfl)) rfl (trivial)
        · refine ExD.done (by kernel_rfl) ?_
          refine Ex.cond_f rfl ?_
          refine Ex.skip ?_
          refine Ex.regSeq (ExL.pures 2 rfl ?_)
          refine ExL.free (fr_load rfl rfl rfl rfl (CellO.blk (i := 0) rfl rfl)) rfl rfl rfl ?_
          refine ExL.pures 2 rfl ?_
          refine ExL.op rfl (op_storeC (i := 1) rfl rfl rfl rfl rfl rfl rfl rfl rfl rfl ?_)
          refine ExL.nil ?_
          refine Ex.drawI [0, 2] rfl rfl ?_
          refine ExD.take (i := 0) rfl (by kernel_rfl) (pureVal_ok rfl) ((List.Sublist.cons_cons _ (List.Sublist.cons _ (List.Sublist.cons_cons _ (List.nil_sublist _))))) rfl rfl rfl ?_
          refine ExD.take (i := 1) rfl (by kernel_rfl) (pureVal_ok rfl) ((List.Sublist.cons_cons _ (List.Sublist.cons _ (List.Sublist.cons_cons _ (List.nil_sublist _))))) rfl rfl rfl ?_
          refine ExD.take (i := 2) rfl (by kernel_rfl) (fr_load rfl rfl rfl rfl (CellO.blk (i := 0) rfl rfl)) ((List.Sublist.cons_cons _ (List.Sublist.cons _ (List.Sublist.cons_cons _ (List.nil_sublist _))))) rfl rfl rfl ?_
          refine ExD.take (i := 3) rfl (by kernel_rfl) (pureVal_ok rfl) ((List.Sublist.cons_cons _ (List.Sublist.cons _ (List.Sublist.cons_cons _ (List.nil_sublist _))))) rfl rfl rfl ?_
          refine ExD.take (i := 4) rfl (by kernel_rfl) (pureVal_ok rfl) ((List.Sublist.cons_cons _ (List.Sublist.cons _ (List.Sublist.cons_cons _ (List.nil_sublist _))))) rfl rfl rfl ?_
          refine ExD.take (i := 5) rfl (by kernel_rfl) (pureVal_ok rfl) ((List.Sublist.cons_cons _ (List.Sublist.cons _ (List.Sublist.cons_cons _ (List.nil_sublist _))))) rfl rfl rfl ?_
          refine ExD.take (i := 7) rfl (by kernel_rfl) (pureVal_ok rfl) ((List.Sublist.cons_cons _ (List.Sublist.cons _ (List.Sublist.cons_cons _ (List.nil_sublist _))))) rfl rfl rfl ?_
          refine ExD.take (i := 8) rfl (by kernel_rfl) (pureVal_ok rfl) ((List.Sublist.cons_cons _ (List.Sublist.cons _ (List.Sublist.cons_cons _ (List.nil_sublist _))))) rfl rfl rfl ?_
          refine ExD.take (i := 9) rfl (by kernel_rfl) (pureVal_ok rfl) ((List.Sublist.cons_cons _ (List.Sublist.cons _ (List.Sublist.cons_cons _ (List.nil_sublist _))))) rfl rfl rfl ?_
          refine ExD.two (i := 6) (j := 10) rfl rfl (by kernel_rfl) (by kernel_rfl) (by kernel_rfl) rfl (List.Sublist.cons_cons _ (List.Sublist.cons _ (List.Sublist.cons_cons _ (List.nil_sublist _)))) rfl rfl rfl rfl rfl rfl rfl rfl rfl (fr_load rfl rfl rfl rfl (CellO.blk (i := 1) rfl rfl)) (fr_loadN rfl rfl rfl rfl rfl (SegO.part (i := 1) 8 rfl)) (fr_load rfl rfl rfl rfl (CellO.blk (i := 1) rfl rfl)) (fr_loadN rfl rfl rfl rfl rfl (SegO.part (i := 1) 8 rfl)) ?_
          refine ExD.op (i := 11) rfl (by kernel_rfl) rfl (op_ret rfl rfl rfl (c_l01Value d.stack (by first | assumption | simp_all) _ _ d.shows (by assumption) (by first | assumption | simp_all)) (Reads.get (Reads.row (i := 2) rfl)) rfl rfl (fun x9 hx9 => ⟨(List.Sublist.cons_cons _ (List.Sublist.cons _ (List.Sublist.cons_cons _ (List.nil_sublist _)))), ?_⟩))
          refine ExD.take (i := 12) rfl (by kernel_rfl) (fr_eql rfl rfl rfl) ((List.Sublist.cons_cons _ (List.Sublist.cons _ (List.Sublist.cons_cons _ (List.nil_sublist _))))) rfl rfl rfl ?_
          refine ExD.take (i := 13) rfl (by kernel_rfl) (pureVal_ok rfl) ((List.Sublist.cons_cons _ (List.Sublist.cons _ (List.Sublist.cons_cons _ (List.nil_sublist _))))) rfl rfl rfl ?_
          refine ExD.take (i := 14) rfl (by kernel_rfl) (pureVal_ok rfl) ((List.Sublist.cons_cons _ (List.Sublist.cons _ (List.Sublist.cons_cons _ (List.nil_sublist _))))) rfl rfl rfl ?_
          refine ExD.op (i := 15) rfl (by kernel_rfl) rfl (op_storeC (i := 1) rfl rfl rfl rfl rfl rfl rfl rfl rfl rfl ⟨(List.Sublist.cons_cons _ (List.Sublist.cons _ (List.Sublist.cons_cons _ (List.nil_sublist _)))), ?_⟩)
          refine ExD.done (by kernel_rfl) ?_
          refine Ex.regSeq (ExL.pures 2 rfl ?_)
          refine ExL.nil ?_
          refine Ex.ret ?_
          refine MutQ.mk () rfl (.tmp rfl (.tmp rfl .nil)) (t2 (vI (by first | (rw [do_1 (by assumption)]; first | done | rfl) | (rw [do_2 (by assumption)]; first | done | rfl) | (rw [do_3n (by assumption) (by omega)]; first | done | rfl) | (rw [do_3 (by assumption) (by omega)]; first | done | rfl) | (rw [do_4 (by assumption)]; first | done | rfl) | (rw [do_5n (by assumption) (by omega)]; first | done | rfl) | (rw [do_5 (by assumption) (by omega)]; first | done | rfl) | (rw [do_0 (by assumption) (by assumption) (by assumption) (by assumption) (by assumption)]; first | done | rfl))) (vI (by first | (rw [do_1 (by assumption)]; first | done | rfl) | (rw [do_2 (by assumption)]; first | done | rfl) | (rw [do_3n (by assumption) (by omega)]; first | done | rfl) | (rw [do_3 (by assumption) (by omega)]; first | done | rfl) | (rw [do_4 (by assumption)]; first | done | rfl) | (rw [do_5n (by assumption) (by omega)]; first | done | rfl) | (rw [do_5 (by assumption) (by omega)]; first | done | rfl) | (rw [do_0 (by assumption) (by assumption) (by assumption) (by assumption) (by assumption)]; first | done | rfl)))) 3 [1, 2] (by first | (rw [do_1 (by assumption)]; first | done | rfl) | (rw [do_2 (by assumption)]; first | done | rfl) | (rw [do_3n (by assumption) (by omega)]; first | done | rfl) | (rw [do_3 (by assumption) (by omega)]; first | done | rfl) | (rw [do_4 (by assumption)]; first | done | rfl) | (rw [do_5n (by assumption) (by omega)]; first | done | rfl) | (rw [do_5 (by assumption) (by omega)]; first | done | rfl) | (rw [do_0 (by assumption) (by assumption) (by assumption) (by assumption) (by assumption)]; first | done | rfl)) rfl (trivial)
      · refine ExL.pures 1 rfl ?_
        refine ExL.nil ?_
        refine Ex.cond_f rfl ?_
        refine Ex.regSeq (ExL.pures 0 rfl ?_)
        refine ExL.eql rfl rfl rfl rfl rfl rfl (fun h10 => ?_) (fun h10 => ?_)
        · refine ExL.pures 1 rfl ?_
          refine ExL.nil ?_
          refine Ex.cond_t rfl ?_
          refine Ex.regSeq (ExL.pures 1 rfl ?_)
          refine ExL.free (fr_build rfl rfl rfl rfl) rfl rfl rfl ?_
          refine ExL.pures 2 rfl ?_
          refine ExL.op rfl (op_storeC (i := 1) rfl rfl rfl rfl rfl rfl rfl rfl rfl rfl ?_)
          refine ExL.nil ?_
          refine Ex.region (ExL.pures 4 rfl ?_)
          refine ExL.free (fr_load rfl rfl rfl rfl (CellO.blk (i := 1) rfl rfl)) rfl rfl rfl ?_
          refine ExL.free (fr_eql rfl rfl rfl) rfl rfl rfl ?_
          refine ExL.pures 2 rfl ?_
          refine ExL.op rfl (op_storeC (i := 1) rfl rfl rfl rfl rfl rfl rfl rfl rfl rfl ?_)
          refine ExL.nil ?_
          refine Ex.regSeq (ExL.pures 2 rfl ?_)
          refine ExL.nil ?_
          refine Ex.ret ?_
          refine MutQ.mk () rfl (.tmp rfl (.tmp rfl .nil)) (t2 (vI (by first | (rw [do_1 (by assumption)]; first | done | rfl) | (rw [do_2 (by assumption)]; first | done | rfl) | (rw [do_3n (by assumption) (by omega)]; first | done | rfl) | (rw [do_3 (by assumption) (by omega)]; first | done | rfl) | (rw [do_4 (by assumption)]; first | done | rfl) | (rw [do_5n (by assumption) (by omega)]; first | done | rfl) | (rw [do_5 (by assumption) (by omega)]; first | done | rfl) | (rw [do_0 (by assumption) (by assumption) (by assumption) (by assumption) (by assumption)]; first | done | rfl))) (vI (by first | (rw [do_1 (by assumption)]; first | done | rfl) | (rw [do_2 (by assumption)]; first | done | rfl) | (rw [do_3n (by assumption) (by omega)]; first | done | rfl) | (rw [do_3 (by assumption) (by omega)]; first | done | rfl) | (rw [do_4 (by assumption)]; first | done | rfl) | (rw [do_5n (by assumption) (by omega)]; first | done | rfl) | (rw [do_5 (by assumption) (by omega)]; first | done | rfl) | (rw [do_0 (by assumption) (by assumption) (by assumption) (by assumption) (by assumption)]; first | done | rfl)))) 3 [1, 2] (by first | (rw [do_1 (by assumption)]; first | done | rfl) | (rw [do_2 (by assumption)]; first | done | rfl) | (rw [do_3n (by assumption) (by omega)]; first | done | rfl) | (rw [do_3 (by assumption) (by omega)]; first | done | rfl) | (rw [do_4 (by assumption)]; first | done | rfl) | (rw [do_5n (by assumption) (by omega)]; first | done | rfl) | (rw [do_5 (by assumption) (by omega)]; first | done | rfl) | (rw [do_0 (by assumption) (by assumption) (by assumption) (by assumption) (by assumption)]; first | done | rfl)) rfl (trivial)
        · refine ExL.pures 1 rfl ?_
          refine ExL.nil ?_
          refine Ex.cond_f rfl ?_
          refine Ex.regSeq (ExL.pures 0 rfl ?_)
          refine ExL.eql rfl rfl rfl rfl rfl rfl (fun h11 => ?_) (fun h11 => ?_)
          · refine ExL.pures 1 rfl ?_
            refine ExL.nil ?_
            refine Ex.cond_t rfl ?_
            refine Ex.seq ?_
            refine Ex.regSeq (ExL.pures 3 rfl ?_)
            refine ExL.free (fr_load rfl rfl rfl rfl (CellO.blk (i := 1) rfl rfl)) rfl rfl rfl ?_
            refine ExL.geq rfl rfl rfl rfl rfl rfl (fun h12 => ?_) (fun h12 => ?_)
            · refine ExL.nil ?_
              refine Ex.cond_t rfl ?_
              refine Ex.regSeq (ExL.pures 2 rfl ?_)
              refine ExL.nil ?_
              refine Ex.ret ?_
              refine MutQ.mk () rfl (.tmp rfl (.tmp rfl .nil)) (t2 (vI (by first | (rw [do_1 (by assumption)]; first | done | rfl) | (rw [do_2 (by assumption)]; first | done | rfl) | (rw [do_3n (by assumption) (by omega)]; first | done | rfl) | (rw [do_3 (by assumption) (by omega)]; first | done | rfl) | (rw [do_4 (by assumption)]; first | done | rfl) | (rw [do_5n (by assumption) (by omega)]; first | done | rfl) | (rw [do_5 (by assumption) (by omega)]; first | done | rfl) | (rw [do_0 (by assumption) (by assumption) (by assumption) (by assumption) (by assumption)]; first | done | rfl))) (vI (by first | (rw [do_1 (by assumption)]; first | done | rfl) | (rw [do_2 (by assumption)]; first | done | rfl) | (rw [do_3n (by assumption) (by omega)]; first | done | rfl) | (rw [do_3 (by assumption) (by omega)]; first | done | rfl) | (rw [do_4 (by assumption)]; first | done | rfl) | (rw [do_5n (by assumption) (by omega)]; first | done | rfl) | (rw [do_5 (by assumption) (by omega)]; first | done | rfl) | (rw [do_0 (by assumption) (by assumption) (by assumption) (by assumption) (by assumption)]; first | done | rfl)))) 3 [1, 2] (by first | (rw [do_1 (by assumption)]; first | done | rfl) | (rw [do_2 (by assumption)]; first | done | rfl) | (rw [do_3n (by assumption) (by omega)]; first | done | rfl) | (rw [do_3 (by assumption) (by omega)]; first | done | rfl) | (rw [do_4 (by assumption)]; first | done | rfl) | (rw [do_5n (by assumption) (by omega)]; first | done | rfl) | (rw [do_5 (by assumption) (by omega)]; first | done | rfl) | (rw [do_0 (by assumption) (by assumption) (by assumption) (by assumption) (by assumption)]; first | done | rfl)) rfl (trivial)
            · refine ExL.nil ?_
              refine Ex.cond_f rfl ?_
              refine Ex.skip ?_
              refine Ex.region (ExL.pures 3 rfl ?_)
              refine ExL.free (fr_load rfl rfl rfl rfl (CellO.blk (i := 1) rfl rfl)) rfl rfl rfl ?_
              refine ExL.free (by first | exact fr_add64 rfl rfl rfl (by omega) | exact fr_add rfl rfl rfl) rfl rfl rfl ?_
              refine ExL.pures 2 rfl ?_
              refine ExL.op rfl (op_storeC (i := 1) rfl rfl rfl rfl rfl rfl rfl rfl rfl rfl ?_)
              refine ExL.nil ?_
              refine Ex.regSeq (ExL.pures 2 rfl ?_)
              refine ExL.nil ?_
              refine Ex.ret ?_
              refine MutQ.mk () rfl (.tmp rfl (.tmp rfl .nil)) (t2 (vI (by first | (rw [do_1 (by assumption)]; first | done | rfl) | (rw [do_2 (by assumption)]; first | done | rfl) | (rw [do_3n (by assumption) (by omega)]; first | done | rfl) | (rw [do_3 (by assumption) (by omega)]; first | done | rfl) | (rw [do_4 (by assumption)]; first | done | rfl) | (rw [do_5n (by assumption) (by omega)]; first | done | rfl) | (rw [do_5 (by assumption) (by omega)]; first | done | rfl) | (rw [do_0 (by assumption) (by assumption) (by assumption) (by assumption) (by assumption)]; first | done | rfl))) (vI (by first | (rw [do_1 (by assumption)]; first | done | rfl) | (rw [do_2 (by assumption)]; first | done | rfl) | (rw [do_3n (by assumption) (by omega)]; first | done | rfl) | (rw [do_3 (by assumption) (by omega)]; first | done | rfl) | (rw [do_4 (by assumption)]; first | done | rfl) | (rw [do_5n (by assumption) (by omega)]; first | done | rfl) | (rw [do_5 (by assumption) (by omega)]; first | done | rfl) | (rw [do_0 (by assumption) (by assumption) (by assumption) (by assumption) (by assumption)]; first | done | rfl)))) 3 [1, 2] (by first | (rw [do_1 (by assumption)]; first | done | rfl) | (rw [do_2 (by assumption)]; first | done | rfl) | (rw [do_3n (by assumption) (by omega)]; first | done | rfl) | (rw [do_3 (by assumption) (by omega)]; first | done | rfl) | (rw [do_4 (by assumption)]; first | done | rfl) | (rw [do_5n (by assumption) (by omega)]; first | done | rfl) | (rw [do_5 (by assumption) (by omega)]; first | done | rfl) | (rw [do_0 (by assumption) (by assumption) (by assumption) (by assumption) (by assumption)]; first | done | rfl)) rfl (trivial)
          · refine ExL.pures 1 rfl ?_
            refine ExL.nil ?_
            refine Ex.cond_f rfl ?_
            refine Ex.skip ?_
            refine Ex.regSeq (ExL.pures 2 rfl ?_)
            refine ExL.nil ?_
            refine Ex.ret ?_
            refine MutQ.mk () rfl (.tmp rfl (.tmp rfl .nil)) (t2 (vI (by first | (rw [do_1 (by assumption)]; first | done | rfl) | (rw [do_2 (by assumption)]; first | done | rfl) | (rw [do_3n (by assumption) (by omega)]; first | done | rfl) | (rw [do_3 (by assumption) (by omega)]; first | done | rfl) | (rw [do_4 (by assumption)]; first | done | rfl) | (rw [do_5n (by assumption) (by omega)]; first | done | rfl) | (rw [do_5 (by assumption) (by omega)]; first | done | rfl) | (rw [do_0 (by assumption) (by assumption) (by assumption) (by assumption) (by assumption)]; first | done | rfl))) (vI (by first | (rw [do_1 (by assumption)]; first | done | rfl) | (rw [do_2 (by assumption)]; first | done | rfl) | (rw [do_3n (by assumption) (by omega)]; first | done | rfl) | (rw [do_3 (by assumption) (by omega)]; first | done | rfl) | (rw [do_4 (by assumption)]; first | done | rfl) | (rw [do_5n (by assumption) (by omega)]; first | done | rfl) | (rw [do_5 (by assumption) (by omega)]; first | done | rfl) | (rw [do_0 (by assumption) (by assumption) (by assumption) (by assumption) (by assumption)]; first | done | rfl)))) 3 [1, 2] (by first | (rw [do_1 (by assumption)]; first | done | rfl) | (rw [do_2 (by assumption)]; first | done | rfl) | (rw [do_3n (by assumption) (by omega)]; first | done | rfl) | (rw [do_3 (by assumption) (by omega)]; first | done | rfl) | (rw [do_4 (by assumption)]; first | done | rfl) | (rw [do_5n (by assumption) (by omega)]; first | done | rfl) | (rw [do_5 (by assumption) (by omega)]; first | done | rfl) | (rw [do_0 (by assumption) (by assumption) (by assumption) (by assumption) (by assumption)]; first | done | rfl)) rfl (trivial)
end Go.Proofs.YthabjnhfhmbamaaGreatDoor

/- What these functions of the program hand back, each proved by walking its operations. -/
set_option linter.unusedVariables false
set_option linter.unusedSimpArgs false
set_option maxRecDepth 4000
namespace Go.Proofs.YthabjnhfhmbamaaGreatDoor
open Go Go.Sx Go.RowKit Go.W Go.Proofs
attribute [local irreducible] Ex ExL ExD Op1 Free RetQ MutQ Reads CellO SegO LoadsAs
theorem e_79 : Enters Tryz.prog 79 := Enters.of Tryz.func79 rfl
theorem c_Clone (s : List Int) (As : Option Addr) (cs : Nat) (hls : s.length ≤ 1048576) : Ret Tryz.prog 79 [.slice As s.length cs] (fun w => Rd w As (s.flatMap (eI .u8))) (fun x : Option Addr × Nat => .slice x.1 s.length x.2) (fun x => [.row (.slice x.1 s.length x.2) 5 1 s.length (s.flatMap (eI .u8))]) (fun x => True) := by
  refine Ret.of e_79 Tryz.func79 rfl Tryz.ntmps79 rfl rfl (fun w hpre => ?_)
  have hs := hpre.base
  have hm0 : maxLen = 9223372036854775807 := rfl
  refine Ex.regSeq (ExL.pures 1 rfl ?_)
  refine ExL.nil ?_
  refine Ex.seq ?_
  refine Ex.regSeq (ExL.pures 1 rfl ?_)
  refine ExL.free (fr_eql_nil rfl rfl rfl rfl) rfl rfl rfl ?_
  refine ExL.nil ?_
  refine Ex.cond rfl (fun hb1 => ?_) (fun hb1 => ?_)
  · refine Ex.regSeq (ExL.pures 1 rfl ?_)
    refine ExL.nil ?_
    refine Ex.nilRow 5 1 ?_
    refine Ex.ret ?_
    obtain rfl := nil_of_none hs (by assumption)
    refine RetQ.mk (none, 0) rfl (.tmp rfl .nil) (rfl) [0] (rfl) rfl (trivial)
  · refine Ex.skip ?_
    refine Ex.regSeq (ExL.pures 0 rfl ?_)
    refine ExL.op rfl (op_buildSlice (sz := 1) rfl rfl rfl rfl rfl rfl rfl rfl (by decide) rfl rfl rfl (fun r2 => ?_))
    refine ExL.pures 1 rfl ?_
    refine ExL.op rfl (op_append0 (sz := 1) (bytes := 1) (i := 0) rfl rfl rfl rfl (Reads.old hs) (flat_len (eI_len .u8) _) (fun e => by simp_all) (all_flat (fun _ => rfl) _) rfl rfl rfl (by constructor <;> first | omega | (unfold maxLen; omega)) rfl rfl (fun A3 cA3 => ?_))
    refine ExL.pures 1 rfl ?_
    refine ExL.nil ?_
    refine Ex.ret ?_
    refine RetQ.mk (A3, cA3) rfl (.tmp rfl .nil) (rfl) [0] (rfl) rfl (trivial)
theorem e_48 : Enters Tryz.prog 48 := Enters.of Tryz.func48 rfl
theorem c_cloneDevice (d : VDev) (Ad : Option Addr) (cd : Nat) (hl : d.stack.length ≤ 1048576) : Ret Tryz.prog 48 [.agg (encV Ad cd d).toArray] (fun w => Rd w Ad (d.stack.flatMap (eI .u8))) (fun x : Option Addr × Nat => .agg (encV x.1 x.2 d).toArray) (fun x => [.row (.slice x.1 d.stack.length x.2) 5 1 d.stack.length (d.stack.flatMap (eI .u8))]) (fun x => True) := by
  refine Ret.of e_48 Tryz.func48 rfl Tryz.ntmps48 rfl rfl (fun w hpre => ?_)
  have hd := hpre.base
  have hm0 : maxLen = 9223372036854775807 := rfl
  refine Ex.regSeq (ExL.pures 0 rfl ?_)
  refine ExL.op rfl (op_box rfl rfl rfl rfl rfl (fun b1 => ?_))
  refine ExL.op rfl (op_alloc rfl rfl rfl rfl rfl (fun b2 => ?_))
  refine ExL.nil ?_
  refine Ex.regSeq (ExL.pures 1 rfl ?_)
  refine ExL.free (fr_load rfl rfl rfl rfl (CellO.blk (i := 1) rfl rfl)) rfl rfl rfl ?_
  refine ExL.op rfl (op_ret rfl rfl rfl (c_Clone d.stack _ _ (by omega)) (Reads.get (Reads.old hd)) rfl rfl (fun x3 hx3 => ?_))
  refine ExL.pures 1 rfl ?_
  refine ExL.op rfl (op_storeC (i := 2) rfl rfl rfl rfl rfl rfl rfl rfl rfl rfl ?_)
  refine ExL.nil ?_
  refine Ex.regSeq (ExL.pures 0 rfl ?_)
  refine ExL.free (fr_loadN rfl rfl rfl rfl rfl (SegO.whole (i := 2) rfl)) rfl rfl rfl ?_
  refine ExL.op rfl (op_storeC (i := 1) rfl rfl rfl rfl rfl rfl rfl rfl rfl rfl ?_)
  refine ExL.nil ?_
  refine Ex.ret ?_
  refine RetQ.mk (x3.1, x3.2) rfl (.cell rfl (.many rfl rfl rfl (SegO.whole (i := 1) rfl)) .nil) (rfl) [0] (rfl) rfl (trivial)
theorem e_51 : Enters Tryz.prog 51 := Enters.of Tryz.func51 rfl
theorem c_l07Copy (d : VDev) (Ad : Option Addr) (cd : Nat) (b : Nat) (hAd : Ad = none → cd = 0) (hl : d.stack.length ≤ 1048576) : Ret Tryz.prog 51 [.pointer (some ⟨b, 0, none⟩)] (fun w => Rd w (some ⟨b, 0, none⟩) (encV Ad cd d) ∧ Rd w Ad (d.stack.flatMap (eI .u8))) (fun x : Option Addr × Nat => .agg (encV x.1 x.2 d).toArray) (fun x => [.row (.slice x.1 d.stack.length x.2) 5 1 d.stack.length (d.stack.flatMap (eI .u8))]) (fun x => True) := by
  refine Ret.of e_51 Tryz.func51 rfl Tryz.ntmps51 rfl rfl (fun w hpre => ?_)
  have hp := hpre.1.base
  have hd := hpre.2.base
  have hm0 : maxLen = 9223372036854775807 := rfl
  refine Ex.regSeq (ExL.pures 0 rfl ?_)
  refine ExL.op rfl (op_alloc rfl rfl rfl rfl rfl (fun b1 => ?_))
  refine ExL.nil ?_
  refine Ex.regSeq (ExL.pures 2 rfl ?_)
  refine ExL.free (fr_loadN rfl rfl rfl rfl rfl (SegO.at 0 12 (Reads.old hp) rfl)) rfl rfl rfl ?_
  refine ExL.op rfl (op_alloc rfl rfl rfl rfl rfl (fun b2 => ?_))
  refine ExL.op rfl (op_storeC (i := 0) rfl rfl rfl rfl rfl rfl rfl rfl rfl rfl ?_)
  refine ExL.nil ?_
  refine Ex.regSeq (ExL.pures 0 rfl ?_)
  refine ExL.op rfl (op_buildSlice (sz := 1) rfl rfl rfl rfl rfl rfl rfl rfl (by decide) rfl rfl rfl (fun r3 => ?_))
  refine ExL.pures 3 rfl ?_
  refine ExL.free (fr_load rfl rfl rfl rfl (CellO.at 0 (Reads.old hp) rfl)) rfl rfl rfl ?_
  refine ExL.op rfl (op_append0 (sz := 1) (bytes := 1) (i := 0) rfl rfl rfl rfl (Reads.old hd) (flat_len (eI_len .u8) _) (fun e => ⟨by subst e; have := fun h => hd.isSome (A := none) h; rcases Nat.eq_zero_or_pos d.stack.length with h | h; exact h; exact absurd (this (by rw [flat_len (eI_len .u8)]; omega)) (by simp), hAd e⟩) (all_flat (fun _ => rfl) _) rfl rfl rfl (by constructor <;> first | omega | (unfold maxLen; omega)) rfl rfl (fun A4 cA4 => ?_))
  refine ExL.pures 1 rfl ?_
  refine ExL.op rfl (op_storeC (i := 1) rfl rfl rfl rfl rfl rfl rfl rfl rfl rfl ?_)
  refine ExL.nil ?_
  refine Ex.regSeq (ExL.pures 0 rfl ?_)
  refine ExL.free (fr_loadN rfl rfl rfl rfl rfl (SegO.whole (i := 1) rfl)) rfl rfl rfl ?_
  refine ExL.op rfl (op_storeC (i := 2) rfl rfl rfl rfl rfl rfl rfl rfl rfl rfl ?_)
  refine ExL.nil ?_
  refine Ex.ret ?_
  refine RetQ.mk (A4, cA4) rfl (.cell rfl (.many rfl rfl rfl (SegO.whole (i := 2) rfl)) .nil) (rfl) [0] (rfl) rfl (trivial)
end Go.Proofs.YthabjnhfhmbamaaGreatDoor

/- What these functions of the program hand back, each proved by walking its operations. -/
set_option linter.unusedVariables false
set_option linter.unusedSimpArgs false
set_option maxRecDepth 4000
namespace Go.Proofs.YthabjnhfhmbamaaGreatDoor
open Go Go.Sx Go.RowKit Go.W Go.Proofs
attribute [local irreducible] Ex ExL ExD Op1 Free RetQ MutQ Reads CellO SegO LoadsAs
theorem eq_Act (d : Nat) (a b : VAct) : EqOk Tryz.prog (d + 1 + 1) 44 (.agg (encA a).toArray) (.agg (encA b).toArray) (sameA a b) := by
  refine EqOk.as (EqOk.struct rfl rfl (by kernel_rfl) (EqFs.one rfl rfl rfl rfl rfl (EqOk.int rfl) (EqFs.one rfl rfl rfl rfl rfl (EqOk.int rfl) EqFs.nil))) ?_
  unfold sameA; simp [Bool.decide_and]
theorem eq_Note (a b : VNote) : EqOk Tryz.prog 10000 69 (.agg (encN a).toArray) (.agg (encN b).toArray) (sameN a b) := by
  refine EqOk.as (EqOk.struct (d := 9999) rfl rfl (by kernel_rfl) (EqFs.many (cx := encA a.act) (cy := encA b.act) rfl rfl rfl rfl rfl rfl (eq_Act 9997 a.act b.act) (EqFs.many (cx := encD a.shows) (cy := encD b.shows) rfl rfl rfl rfl rfl rfl (EqOk.ints (d := 9997) rfl rfl rfl rfl a.shows.l b.shows.l rfl rfl) (EqFs.one rfl rfl rfl rfl rfl (EqOk.int rfl) EqFs.nil)))) ?_
  unfold sameN; simp [Bool.decide_and]
end Go.Proofs.YthabjnhfhmbamaaGreatDoor

/- What these functions of the program hand back, each proved by walking its operations. -/
set_option linter.unusedVariables false
set_option linter.unusedSimpArgs false
set_option maxRecDepth 4000
namespace Go.Proofs.YthabjnhfhmbamaaGreatDoor
open Go Go.Sx Go.RowKit Go.W Go.Proofs
attribute [local irreducible] Ex ExL ExD Op1 Free RetQ MutQ Reads CellO SegO LoadsAs
end Go.Proofs.YthabjnhfhmbamaaGreatDoor

/- What these functions of the program hand back, each proved by walking its operations. -/
set_option linter.unusedVariables false
set_option linter.unusedSimpArgs false
set_option maxRecDepth 4000
namespace Go.Proofs.YthabjnhfhmbamaaGreatDoor
open Go Go.Sx Go.RowKit Go.W Go.Proofs
attribute [local irreducible] Ex ExL ExD Op1 Free RetQ MutQ Reads CellO SegO LoadsAs
end Go.Proofs.YthabjnhfhmbamaaGreatDoor

/- What these functions of the program hand back, each proved by walking its operations. -/
set_option linter.unusedVariables false
set_option linter.unusedSimpArgs false
set_option maxRecDepth 4000
namespace Go.Proofs.YthabjnhfhmbamaaGreatDoor
open Go Go.Sx Go.RowKit Go.W Go.Proofs
attribute [local irreducible] Ex ExL ExD Op1 Free RetQ MutQ Reads CellO SegO LoadsAs
theorem e_73 : Enters Tryz.prog 73 := Enters.of Tryz.func73 rfl
theorem c_slIndexFuncA (s : List VAct) (As : Option Addr) (cs : Nat) (hls : s.length ≤ maxLen) (g : FuncId) (cap : List Value) (Pr : World → Prop) (hPr : ∀ w w', Pr w → Below w.heap.size w w' → Pr w') (p : VAct → Bool) (hp : ∀ x : VAct, Ret Tryz.prog g ([.agg (encA x).toArray] ++ cap) Pr (fun _ : Unit => .bool (p x)) (fun _ => []) (fun _ => True)) : Ret Tryz.prog 73 [.slice As s.length cs, .func (.func g) #[] cap.toArray] (fun w => Rd w As (s.flatMap encA) ∧ Pr w) (fun x : Unit => .int .i64 (idxF p s)) (fun x => []) (fun x => True) := by
  refine Ret.of e_73 Tryz.func73 rfl Tryz.ntmps73 rfl rfl (fun w hpre => ?_)
  have hs := hpre.1.base
  have hm0 : maxLen = 9223372036854775807 := rfl
  refine Ex.regSeq (ExL.pures 1 rfl ?_)
  refine ExL.nil ?_
  refine Ex.seq ?_
  refine Ex.regSeq (ExL.pures 3 rfl ?_)
  refine ExL.nil ?_
  refine Ex.block ?_
  refine Ex.loopK (X := Nat) (fun k => [(8, .int .i64 k)]) (fun k => []) (fun k => k ≤ s.length ∧ ∀ i, i < k → p (s.getD i zA) = false) (fun k => s.length - k) 0 [(0, _), (1, _), (7, _)] [] 0 [] ⟨rfl, trivial⟩ ⟨rfl, rfl, rfl, trivial⟩ (rfl) rfl ⟨Nat.zero_le _, fun i hi => by omega⟩ (fun k hI => ?_)
  have hI : k ≤ s.length ∧ ∀ i, i < k → p (s.getD i zA) = false := hI
  obtain ⟨hk, hall⟩ := hI
  refine Ex.regSeq (ExL.pures 0 rfl ?_)
  refine ExL.lss rfl rfl rfl rfl rfl rfl (fun h1 => ?_) (fun h1 => ?_)
  · refine ExL.nil ?_
    refine Ex.seq ?_
    refine Ex.cond_t rfl ?_
    refine Ex.skip ?_
    refine Ex.seq ?_
    refine Ex.block ?_
    have hk2 : k < s.length := by omega
    refine Ex.regSeq (ExL.pures 2 rfl ?_)
    refine ExL.nil ?_
    refine Ex.regSeq (ExL.pures 3 rfl ?_)
    refine ExL.free (fr_indexAddrF (Reads.old hs) encA_len rfl rfl rfl rfl rfl rfl (by omega)) rfl rfl rfl ?_
    refine ExL.free (fr_loadN rfl rfl rfl rfl rfl (by first | exact segN (Reads.old hs) encA_len rfl zA (by omega) | exact segF (Reads.old hs) encA_len rfl zA (by omega))) rfl rfl rfl ?_
    refine ExL.op rfl (op_ret rfl rfl rfl (hp _) (fun w' hw => hPr _ _ hpre.2 hw.below) rfl rfl (fun x2 hx2 => ?_))
    refine ExL.nil ?_
    refine Ex.cond rfl (fun hb3 => ?_) (fun hb3 => ?_)
    · refine Ex.regSeq (ExL.pures 2 rfl ?_)
      refine ExL.nil ?_
      refine Ex.ret ?_
      refine RetQ.mk () rfl (.tmp rfl .nil) (tI (by first | exact (idx_hit (by omega) hall (by assumption)).symm | exact (idx_none (by omega) hall).symm)) [] (rfl) rfl (trivial)
    · refine Ex.skip ?_
      refine Ex.region (ExL.pures 0 rfl ?_)
      refine ExL.free (by first | exact fr_add64 rfl rfl rfl (by omega) | exact fr_add rfl rfl rfl) rfl rfl rfl ?_
      refine ExL.pures 1 rfl ?_
      refine ExL.nil ?_
      refine Hand.mk (k + 1) 0 [] ⟨rfl, trivial⟩ ⟨rfl, rfl, rfl, trivial⟩ (rfl) rfl (⟨by omega, all_snoc hall (by assumption)⟩) (by omega)
  · refine ExL.nil ?_
    refine Ex.seq ?_
    refine Ex.cond_f rfl ?_
    refine Ex.exit ?_
    refine Ex.regSeq (ExL.pures 1 rfl ?_)
    refine ExL.nil ?_
    refine Ex.ret ?_
    refine RetQ.mk () rfl (.tmp rfl .nil) (tI (by first | exact (idx_hit (by omega) hall (by assumption)).symm | exact (idx_none (by omega) hall).symm)) [] (rfl) rfl (trivial)
theorem e_39 : Enters Tryz.prog 39 := Enters.of Tryz.func39 rfl
theorem c_slContainsFuncA (s : List VAct) (As : Option Addr) (cs : Nat) (hls : s.length ≤ maxLen) (g : FuncId) (cap : List Value) (Pr : World → Prop) (hPr : ∀ w w', Pr w → Below w.heap.size w w' → Pr w') (p : VAct → Bool) (hp : ∀ x : VAct, Ret Tryz.prog g ([.agg (encA x).toArray] ++ cap) Pr (fun _ : Unit => .bool (p x)) (fun _ => []) (fun _ => True)) : Ret Tryz.prog 39 [.slice As s.length cs, .func (.func g) #[] cap.toArray] (fun w => Rd w As (s.flatMap encA) ∧ Pr w) (fun x : Unit => .bool (s.any p)) (fun x => []) (fun x => True) := by
  refine Ret.of e_39 Tryz.func39 rfl Tryz.ntmps39 rfl rfl (fun w hpre => ?_)
  have hs := hpre.1.base
  have hm0 : maxLen = 9223372036854775807 := rfl
  refine Ex.regSeq (ExL.pures 1 rfl ?_)
  refine ExL.nil ?_
  refine Ex.regSeq (ExL.pures 2 rfl ?_)
  refine ExL.op rfl (op_ret rfl rfl rfl (c_slIndexFuncA s _ _ (by omega) g cap Pr hPr p hp) (fun w' hw => ⟨Reads.get (Reads.old hs) w' hw, hPr _ _ hpre.2 hw.below⟩) rfl rfl (fun x1 hx1 => ?_))
  refine ExL.geq rfl rfl rfl rfl rfl rfl (fun h2 => ?_) (fun h2 => ?_)
  · refine ExL.pures 1 rfl ?_
    refine ExL.nil ?_
    refine Ex.ret ?_
    refine RetQ.mk () rfl (.tmp rfl .nil) (tB (by rw [any_idx]; first | exact dec_t (by omega) | exact dec_f (by omega) | rfl)) [] (rfl) rfl (trivial)
  · refine ExL.pures 1 rfl ?_
    refine ExL.nil ?_
    refine Ex.ret ?_
    refine RetQ.mk () rfl (.tmp rfl .nil) (tB (by rw [any_idx]; first | exact dec_t (by omega) | exact dec_f (by omega) | rfl)) [] (rfl) rfl (trivial)
theorem e_70 : Enters Tryz.prog 70 := Enters.of Tryz.func70 rfl
theorem c_af1 (a : VAct) : Ret Tryz.prog 70 [.agg (encA a).toArray] (fun w => True) (fun x : Unit => .bool (badA a)) (fun x => []) (fun x => True) := by
  refine Ret.of e_70 Tryz.func70 rfl Tryz.ntmps70 rfl rfl (fun w hpre => ?_)
  refine Ex.regSeq (ExL.pures 0 rfl ?_)
  refine ExL.op rfl (op_box rfl rfl rfl rfl rfl (fun b1 => ?_))
  refine ExL.pures 1 rfl ?_
  refine ExL.nil ?_
  refine Ex.regSeq (ExL.pures 0 rfl ?_)
  refine ExL.free (fr_loadN rfl rfl rfl rfl rfl (SegO.whole (i := 0) rfl)) rfl rfl rfl ?_
  refine ExL.op rfl (op_ret rfl rfl rfl (c_ValidAct _) (fun _ _ => trivial) rfl rfl (fun x2 hx2 => ?_))
  refine ExL.pures 2 rfl ?_
  refine ExL.nil ?_
  refine Ex.ret ?_
  refine RetQ.mk () rfl (.tmp rfl .nil) (tB (by unfold badA; simp_all)) [] (rfl) rfl (trivial)
theorem e_40 : Enters Tryz.prog 40 := Enters.of Tryz.func40 rfl
theorem c_sh1 (a : VAct) : Ret Tryz.prog 40 [.agg (encA a).toArray] (fun w => True) (fun x : Unit => .bool (big a)) (fun x => []) (fun x => True) := by
  refine Ret.of e_40 Tryz.func40 rfl Tryz.ntmps40 rfl rfl (fun w hpre => ?_)
  refine Ex.regSeq (ExL.pures 0 rfl ?_)
  refine ExL.op rfl (op_box rfl rfl rfl rfl rfl (fun b1 => ?_))
  refine ExL.pures 1 rfl ?_
  refine ExL.nil ?_
  refine Ex.regSeq (ExL.pures 1 rfl ?_)
  refine ExL.free (fr_load rfl rfl rfl rfl (CellO.blk (i := 0) rfl rfl)) rfl rfl rfl ?_
  refine ExL.gtr rfl rfl rfl rfl rfl rfl (fun h2 => ?_) (fun h2 => ?_)
  · refine ExL.pures 1 rfl ?_
    refine ExL.nil ?_
    refine Ex.ret ?_
    refine RetQ.mk () rfl (.tmp rfl .nil) (tB (by unfold big; first | exact dec_t (by omega) | exact dec_f (by omega) | exact decide_eq_decide.2 (by omega) | rfl)) [] (rfl) rfl (trivial)
  · refine ExL.pures 1 rfl ?_
    refine ExL.nil ?_
    refine Ex.ret ?_
    refine RetQ.mk () rfl (.tmp rfl .nil) (tB (by unfold big; first | exact dec_t (by omega) | exact dec_f (by omega) | exact decide_eq_decide.2 (by omega) | rfl)) [] (rfl) rfl (trivial)
theorem e_38 : Enters Tryz.prog 38 := Enters.of Tryz.func38 rfl
theorem c_isPulse (a : VAct) : Ret Tryz.prog 38 [.agg (encA a).toArray] (fun w => True) (fun x : Unit => .bool (isPulse a)) (fun x => []) (fun x => True) := by
  refine Ret.of e_38 Tryz.func38 rfl Tryz.ntmps38 rfl rfl (fun w hpre => ?_)
  refine Ex.regSeq (ExL.pures 0 rfl ?_)
  refine ExL.op rfl (op_box rfl rfl rfl rfl rfl (fun b1 => ?_))
  refine ExL.pures 1 rfl ?_
  refine ExL.nil ?_
  refine Ex.regSeq (ExL.pures 1 rfl ?_)
  refine ExL.free (fr_load rfl rfl rfl rfl (CellO.blk (i := 0) rfl rfl)) rfl rfl rfl ?_
  refine ExL.eql rfl rfl rfl rfl rfl rfl (fun h2 => ?_) (fun h2 => ?_)
  · refine ExL.pures 6 rfl ?_
    refine ExL.nil ?_
    refine Ex.ret ?_
    refine RetQ.mk () rfl (.tmp rfl .nil) (tB (by unfold isPulse; first | exact dec_t (by omega) | exact dec_f (by omega) | exact decide_eq_decide.2 (by omega))) [] (rfl) rfl (trivial)
  · refine ExL.pures 2 rfl ?_
    refine ExL.free (fr_load rfl rfl rfl rfl (CellO.blk (i := 0) rfl rfl)) rfl rfl rfl ?_
    refine ExL.eql rfl rfl rfl rfl rfl rfl (fun h3 => ?_) (fun h3 => ?_)
    · refine ExL.pures 2 rfl ?_
      refine ExL.nil ?_
      refine Ex.ret ?_
      refine RetQ.mk () rfl (.tmp rfl .nil) (tB (by unfold isPulse; first | exact dec_t (by omega) | exact dec_f (by omega) | exact decide_eq_decide.2 (by omega))) [] (rfl) rfl (trivial)
    · refine ExL.pures 2 rfl ?_
      refine ExL.nil ?_
      refine Ex.ret ?_
      refine RetQ.mk () rfl (.tmp rfl .nil) (tB (by unfold isPulse; first | exact dec_t (by omega) | exact dec_f (by omega) | exact decide_eq_decide.2 (by omega))) [] (rfl) rfl (trivial)
theorem e_34 : Enters Tryz.prog 34 := Enters.of Tryz.func34 rfl
theorem c_actsFault (l : List VAct) (Al : Option Addr) (cl : Nat) (hll : l.length ≤ maxLen) : Ret Tryz.prog 34 [.slice Al l.length cl] (fun w => Rd w Al (l.flatMap encA)) (fun x : Unit => .int .i64 (afault l)) (fun x => []) (fun x => True) := by
  refine Ret.of e_34 Tryz.func34 rfl Tryz.ntmps34 rfl rfl (fun w hpre => ?_)
  have hl := hpre.base
  have hm0 : maxLen = 9223372036854775807 := rfl
  refine Ex.regSeq (ExL.pures 1 rfl ?_)
  refine ExL.nil ?_
  refine Ex.seq ?_
  refine Ex.block ?_
  refine Ex.regSeq (ExL.pures 1 rfl ?_)
  refine ExL.op rfl (op_ret rfl rfl rfl (c_slContainsFuncA l _ _ (by omega) 70 [] (fun _ => True) (fun _ _ _ _ => trivial) (badA) (fun x => c_af1 x)) (fun w' hw => ⟨Reads.get (Reads.old hl) w' hw, trivial⟩) rfl rfl (fun x1 hx1 => ?_))
  refine ExL.pures 1 rfl ?_
  refine ExL.nil ?_
  refine Ex.cond rfl (fun hb2 => ?_) (fun hb2 => ?_)
  · refine Ex.regSeq (ExL.pures 1 rfl ?_)
    refine ExL.nil ?_
    refine Ex.ret ?_
    refine RetQ.mk () rfl (.tmp rfl .nil) (tI (by first | exact af_bad (by assumption) | exact af_long (by assumption) (by assumption) | exact af_ok (by assumption) (by assumption))) [] (rfl) rfl (trivial)
  · refine Ex.regSeq (ExL.pures 2 rfl ?_)
    refine ExL.gtr rfl rfl rfl rfl rfl rfl (fun h3 => ?_) (fun h3 => ?_)
    · refine ExL.pures 1 rfl ?_
      refine ExL.nil ?_
      refine Ex.cond_t rfl ?_
      refine Ex.regSeq (ExL.pures 1 rfl ?_)
      refine ExL.nil ?_
      refine Ex.ret ?_
      refine RetQ.mk () rfl (.tmp rfl .nil) (tI (by first | exact af_bad (by assumption) | exact af_long (by assumption) (by assumption) | exact af_ok (by assumption) (by assumption))) [] (rfl) rfl (trivial)
    · refine ExL.pures 1 rfl ?_
      refine ExL.nil ?_
      refine Ex.cond_f rfl ?_
      refine Ex.skip ?_
      refine Ex.regSeq (ExL.pures 1 rfl ?_)
      refine ExL.nil ?_
      refine Ex.ret ?_
      refine RetQ.mk () rfl (.tmp rfl .nil) (tI (by first | exact af_bad (by assumption) | exact af_long (by assumption) (by assumption) | exact af_ok (by assumption) (by assumption))) [] (rfl) rfl (trivial)
end Go.Proofs.YthabjnhfhmbamaaGreatDoor

/- What these functions of the program hand back, each proved by walking its operations. -/
set_option linter.unusedVariables false
set_option linter.unusedSimpArgs false
set_option maxRecDepth 4000
namespace Go.Proofs.YthabjnhfhmbamaaGreatDoor
open Go Go.Sx Go.RowKit Go.W Go.Proofs
attribute [local irreducible] Ex ExL ExD Op1 Free RetQ MutQ Reads CellO SegO LoadsAs
theorem e_10 : Enters Tryz.prog 10 := Enters.of Tryz.func10 rfl
theorem c_iActsText (l : List VAct) (Al : Option Addr) (cl : Nat) (hll : l.length ≤ maxLen) : Ret Tryz.prog 10 [.slice Al l.length cl] (fun w => Rd w Al (l.flatMap encA) ∧ TabO Tryz.prog w) (fun x : Unit => sv (actsTx l)) (fun x => []) (fun x => True) := by
  refine Ret.of e_10 Tryz.func10 rfl Tryz.ntmps10 rfl rfl (fun w hpre => ?_)
  have hl := hpre.1.base
  have htab := hpre.2
  have hm0 : maxLen = 9223372036854775807 := rfl
  refine Ex.regSeq (ExL.pures 1 rfl ?_)
  refine ExL.nil ?_
  refine Ex.seq ?_
  refine Ex.regSeq (ExL.pures 1 rfl ?_)
  refine ExL.op rfl (op_ret rfl rfl rfl (c_actsFault l _ _ (by omega)) (Reads.get (Reads.old hl)) rfl rfl (fun x1 hx1 => ?_))
  refine ExL.neq rfl rfl rfl rfl rfl rfl (fun h2 => ?_) (fun h2 => ?_)
  · refine ExL.nil ?_
    refine Ex.cond_t rfl ?_
    refine Ex.regSeq (ExL.pures 1 rfl ?_)
    refine ExL.nil ?_
    refine Ex.ret ?_
    refine RetQ.mk () rfl (.tmp rfl .nil) (tS (by first | exact (actsTx_f (by assumption)).symm | exact hlast)) [] (rfl) rfl (trivial)
  · refine ExL.nil ?_
    refine Ex.cond_f rfl ?_
    refine Ex.skip ?_
    refine Ex.regSeq (ExL.pures 0 rfl ?_)
    refine ExL.free (fr_build rfl rfl rfl rfl) rfl rfl rfl ?_
    refine ExL.op rfl (op_alloc rfl rfl rfl rfl rfl (fun b3 => ?_))
    refine ExL.op rfl (op_storeC (i := 0) rfl rfl rfl rfl rfl rfl rfl rfl rfl rfl ?_)
    refine ExL.nil ?_
    refine Ex.seq ?_
    refine Ex.nilRow 5 1 ?_
    refine Ex.regSeq (ExL.pures 3 rfl ?_)
    refine ExL.nil ?_
    refine Ex.block ?_
    refine Ex.loopK (X := BdS) (fun q => [(12, .int .i64 q.k)]) (fun q => [.blk b3 [bp b3 q.u, .slice q.A (aText l q.k).length q.c] 78, .row (.slice q.A (aText l q.k).length q.c) 5 1 (aText l q.k).length ((aText l q.k).flatMap eU)]) (fun q => q.k ≤ l.length ∧ (aText l q.k = [] → q.A = none ∧ q.c = 0)) (fun q => l.length - q.k) (⟨0, false, none, 0⟩ : BdS) [(2, _), (3, _), (10, _), (11, _)] [] 2 [1, 0] ⟨rfl, trivial⟩ ⟨rfl, rfl, rfl, rfl, trivial⟩ (rfl) rfl ⟨Nat.zero_le _, fun _ => ⟨rfl, rfl⟩⟩ (fun q hI => ?_)
    have hI : q.k ≤ l.length ∧ (aText l q.k = [] → q.A = none ∧ q.c = 0) := hI
    obtain ⟨hkq, hnil⟩ := hI
    refine Ex.regSeq (ExL.pures 0 rfl ?_)
    refine ExL.lss rfl rfl rfl rfl rfl rfl (fun h4 => ?_) (fun h4 => ?_)
    · refine ExL.nil ?_
      refine Ex.seq ?_
      refine Ex.cond_t rfl ?_
      refine Ex.skip ?_
      refine Ex.seq ?_
      refine Ex.block ?_
      have hkl : q.k < l.length := by omega
      obtain ⟨hle, hva⟩ := af_none0 (l := l) (by omega)
      have hvk := hva q.k (by omega)
      have hvd := of_decide_eq_true (show decide _ = true from hvk)
      have hil := itoa_le (n := (l.getD q.k zA).n) (by omega)
      have hwl := actW_le (l.getD q.k zA)
      have htx := aText_le hva hle (k := q.k) (by omega)
      have hw6 : wordsL.length = 6 := rfl
      have hal := actT_le hvk
      refine Ex.regSeq (ExL.pures 0 rfl ?_)
      refine ExL.free (fr_indexAddrF (Reads.old hl) encA_len rfl rfl rfl rfl rfl rfl (by omega)) rfl rfl rfl ?_
      refine ExL.free (fr_loadN rfl rfl rfl rfl rfl (by first | exact segN (Reads.old hl) encA_len rfl zA (by omega) | exact segF (Reads.old hl) encA_len rfl zA (by omega))) rfl rfl rfl ?_
      refine ExL.op rfl (op_alloc rfl rfl rfl rfl rfl (fun b5 => ?_))
      refine ExL.op rfl (op_storeC (i := 0) rfl rfl rfl rfl rfl rfl rfl rfl rfl rfl ?_)
      refine ExL.nil ?_
      refine Ex.region (ExL.pures 0 rfl ?_)
      refine ExL.free (fr_loadN rfl rfl rfl rfl rfl (SegO.whole (i := 0) rfl)) rfl rfl rfl ?_
      refine ExL.op rfl (op_ret rfl rfl rfl (c_actText (l.getD q.k zA) (by assumption)) (fun w hw => TabO.keep htab hw) rfl rfl (fun x6 hx6 => ?_))
      refine ExL.free (fr_addS (l := (actT (l.getD q.k zA))) (r := [10]) rfl rfl rfl (by first | omega | (simp only [List.length_append, List.length_cons, List.length_nil]; omega))) rfl rfl rfl ?_
      refine ExL.op rfl (op_mut rfl rfl rfl (c_WriteString b3 q.u (aText l q.k) _ _ ((actT (l.getD q.k zA)) ++ [10]) (by first | omega | (simp only [List.length_append, List.length_cons, List.length_nil]; omega))) (perm_lt (i := 1) (j := 2) rfl rfl rfl) (trivial) rfl rfl (fun x7 hx7 => ?_))
      refine ExL.nil ?_
      refine Ex.region (ExL.pures 0 rfl ?_)
      refine ExL.free (by first | exact fr_add64 rfl rfl rfl (by omega) | exact fr_add rfl rfl rfl) rfl rfl rfl ?_
      refine ExL.pures 1 rfl ?_
      refine ExL.nil ?_
      refine Hand.mk (⟨q.k + 1, true, x7.1, x7.2⟩ : BdS) 3 [0, 1] ⟨rfl, trivial⟩ ⟨rfl, rfl, rfl, rfl, trivial⟩ (rfl) rfl (⟨by dsimp only; omega, fun h => absurd h (aText_pos (k := q.k + 1) (by omega))⟩) (by dsimp only; omega)
    · refine ExL.nil ?_
      refine Ex.seq ?_
      refine Ex.cond_f rfl ?_
      refine Ex.exit ?_
      have hkn : q.k = l.length := by omega
      have hlast : aText l q.k = actsTx l := by rw [hkn]; exact (actsTx_t (by omega)).symm
      refine Ex.regSeq (ExL.pures 0 rfl ?_)
      refine ExL.op rfl (op_mut rfl rfl rfl (c_String b3 q.u (aText l q.k) _ _ (by assumption)) (perm_lt (i := 0) (j := 1) rfl rfl rfl) (trivial) rfl rfl (fun x8 hx8 => ?_))
      refine ExL.pures 1 rfl ?_
      refine ExL.nil ?_
      refine Ex.ret ?_
      refine RetQ.mk () rfl (.tmp rfl .nil) (tS (by first | exact (actsTx_f (by assumption)).symm | exact hlast)) [] (rfl) rfl (trivial)
end Go.Proofs.YthabjnhfhmbamaaGreatDoor
