/- Several texts, one behind the other. -/
import Derived.Lib.AppendZeros
import Derived.Test.YtniimollalcjnaaGreatDoorXaa
import Derived.Test.YtniimollalcjnaaGreatDoorXab
/- Merging in place: the search, the two halves, the single ones. -/
set_option linter.unusedVariables false
set_option linter.unusedSimpArgs false
namespace Go.W
open Go Go.Sx
/-- The search for where to cut: n is the middle and the border together. -/
structure SI (l : List VP) (n s0 r0 s r : Nat) : Prop where
  s0s : s0 ≤ s
  sr : s ≤ r
  rr : r ≤ r0
  lo : s = s0 ∨ (l.getD (s - 1) zP).a ≤ (l.getD (n - s) zP).a
  hi : r = r0 ∨ (l.getD (n - 1 - r) zP).a < (l.getD r zP).a
theorem SI.zero {l : List VP} {n s0 r0 : Nat} (h : s0 ≤ r0) : SI l n s0 r0 s0 r0 := ⟨Nat.le_refl _, h, Nat.le_refl _, .inl rfl, .inl rfl⟩
theorem SI.up {l : List VP} {n s0 r0 s r c : Nat} (h : SI l n s0 r0 s r) (h1 : s ≤ c) (h2 : c < r) (hq : ¬ (l.getD (n - 1 - c) zP).a < (l.getD c zP).a) : SI l n s0 r0 (c + 1) r :=
  ⟨by have := h.s0s; omega, h2, h.rr, .inr (by rw [Nat.add_sub_cancel, show n - (c + 1) = n - 1 - c by omega]; omega), h.hi⟩
theorem SI.down {l : List VP} {n s0 r0 s r c : Nat} (h : SI l n s0 r0 s r) (h1 : s ≤ c) (h2 : c < r) (hq : (l.getD (n - 1 - c) zP).a < (l.getD c zP).a) : SI l n s0 r0 s c :=
  ⟨h.s0s, h1, by have := h.rr; omega, h.lo, .inr hq⟩
theorem Up.le {l : List VP} {a b i j : Nat} (h : Up l a b) (h1 : a ≤ i) (h2 : i ≤ j) (h3 : j < b) : (l.getD i zP).a ≤ (l.getD j zP).a := by
  rcases Nat.lt_or_ge i j with h4 | h4
  · exact h i j h1 h4 h3
  · rw [show i = j by omega]; exact Int.le_refl _
/-- What is known where the cut has been found. -/
structure Cut (l : List VP) (a m b mid s e : Nat) : Prop where
  as : a ≤ s
  sm : s ≤ m
  me : m ≤ e
  eb : e ≤ b
  sd : s ≤ mid
  es : e = mid + m - s
  lt : ∀ p q, s ≤ p → p < m → m ≤ q → q < e → (l.getD q zP).a < (l.getD p zP).a
  le : ∀ p q, a ≤ p → p < s → e ≤ q → q < b → (l.getD p zP).a ≤ (l.getD q zP).a
theorem SI.cut {l : List VP} {a m b mid s r s0 r0 : Nat} (h : SI l (mid + m) s0 r0 s r) (hs : s = r) (ham : a < m) (hmb : m < b) (hmid : mid = (a + b) / 2)
    (h0 : (mid < m ∧ s0 = mid + m - b ∧ r0 = mid) ∨ (m ≤ mid ∧ s0 = a ∧ r0 = m)) (hu : Up l a m) (hv : Up l m b) : Cut l a m b mid s (mid + m - s) := by
  have h1 := h.s0s; have h2 := h.rr
  subst hs
  refine ⟨by omega, by omega, by omega, by omega, by omega, rfl, fun p q p1 p2 q1 q2 => ?_, fun p q p1 p2 q1 q2 => ?_⟩
  · rcases h.hi with h3 | h3
    · omega
    · have a1 := hu.le (i := s) (j := p) (by omega) p1 p2
      have a2 := hv.le (i := q) (j := mid + m - 1 - s) q1 (by omega) (by omega)
      omega
  · rcases h.lo with h3 | h3
    · omega
    · have a1 := hu.le (i := p) (j := s - 1) p1 (by omega) (by omega)
      have a2 := hv.le (i := mid + m - s) (j := q) (by omega) q1 q2
      omega
/-- What is known of the two halves. -/
structure Half (x : List VP) (a s mid e b : Nat) : Prop where
  u1 : Up x a s
  u2 : Up x s mid
  u3 : Up x mid e
  u4 : Up x e b
  le : ∀ p q, a ≤ p → p < mid → mid ≤ q → q < b → (x.getD p zP).a ≤ (x.getD q zP).a
theorem Cut.half {l x : List VP} {a m b mid s e : Nat} (h : Cut l a m b mid s e) (hu : Up l a m) (hv : Up l m b) (hr : Rot s m e l x) : Half x a s mid e b := by
  have h1 := h.as; have h2 := h.sm; have h3 := h.me; have h4 := h.eb; have h5 := h.sd; have h6 := h.es
  have r1 : ∀ p, p < s → x.getD p zP = l.getD p zP := fun p hp => by rw [hr.2]; unfold ri; rw [if_pos (.inl hp)]
  have r4 : ∀ p, e ≤ p → x.getD p zP = l.getD p zP := fun p hp => by rw [hr.2]; unfold ri; rw [if_pos (.inr hp)]
  have r2 : ∀ p, s ≤ p → p < mid → x.getD p zP = l.getD (p + (m - s)) zP := fun p g1 g2 => by rw [hr.2]; unfold ri; rw [if_neg (by omega), if_pos (by omega)]
  have r3 : ∀ p, mid ≤ p → p < e → x.getD p zP = l.getD (p - (e - m)) zP := fun p g1 g2 => by rw [hr.2]; unfold ri; rw [if_neg (by omega), if_neg (by omega)]
  refine ⟨fun i j g1 g2 g3 => ?_, fun i j g1 g2 g3 => ?_, fun i j g1 g2 g3 => ?_, fun i j g1 g2 g3 => ?_, fun p q g1 g2 g3 g4 => ?_⟩
  · rw [r1 i (by omega), r1 j g3]; exact hu.le g1 (by omega) (by omega)
  · rw [r2 i g1 (by omega), r2 j (by omega) g3]; exact hv.le (by omega) (by omega) (by omega)
  · rw [r3 i g1 (by omega), r3 j (by omega) g3]; exact hu.le (by omega) (by omega) (by omega)
  · rw [r4 i g1, r4 j (by omega)]; exact hv.le (by omega) (by omega) g3
  · rcases Nat.lt_or_ge p s with c1 | c1
    · rw [r1 p c1]
      rcases Nat.lt_or_ge q e with c2 | c2
      · rw [r3 q g3 c2]; exact hu.le g1 (by omega) (by omega)
      · rw [r4 q c2]; exact h.le p q g1 c1 c2 g4
    · rw [r2 p c1 g2]
      rcases Nat.lt_or_ge q e with c2 | c2
      · rw [r3 q g3 c2]; exact Int.le_of_lt (h.lt _ _ (by omega) (by omega) (by omega) (by omega))
      · rw [r4 q c2]; exact hv.le (by omega) (by omega) g4
theorem Half.fin {x y z : List VP} {a s mid e b : Nat} (h : Half x a s mid e b) (ha : a ≤ mid) (hb : mid ≤ b) (hbl : b ≤ x.length) (h1 : Mv a mid x y) (h2 : Up y a mid) (h3 : Mv mid b y z) (h4 : Up z mid b) : Mv a b x z ∧ Up z a b := by
  refine ⟨(h1.wide (Nat.le_refl _) hb).trans (h3.wide ha (Nat.le_refl _)), fun p q p1 p2 p3 => ?_⟩
  have hl := h1.same.len
  rcases Nat.lt_or_ge q mid with c1 | c1
  · rw [h3.out p (.inl (by omega)), h3.out q (.inl c1)]; exact h2 p q p1 p2 c1
  · rcases Nat.lt_or_ge p mid with c2 | c2
    · rw [h3.out p (.inl c2)]
      obtain ⟨i, i1, i2, i3⟩ := h1.was (by omega) p1 c2
      obtain ⟨j, j1, j2, j3⟩ := h3.was (by omega) c1 p3
      rw [i3, j3, h1.out j (.inr j1)]
      exact h.le i j i1 i2 j1 j2
    · exact h4 p q c2 p2 p3
/-- The one ahead: where it goes. -/
structure One (l : List VP) (m b x i j : Nat) : Prop where
  mi : m ≤ i
  ij : i ≤ j
  jb : j ≤ b
  lo : i = m ∨ (l.getD (i - 1) zP).a < (l.getD x zP).a
  hi : j = b ∨ ¬ (l.getD j zP).a < (l.getD x zP).a
theorem One.zero {l : List VP} {m b x : Nat} (h : m ≤ b) : One l m b x m b := ⟨Nat.le_refl _, h, Nat.le_refl _, .inl rfl, .inl rfl⟩
theorem One.up {l : List VP} {m b x i j h : Nat} (H : One l m b x i j) (h1 : i ≤ h) (h2 : h < j) (hq : (l.getD h zP).a < (l.getD x zP).a) : One l m b x (h + 1) j := ⟨by have := H.mi; omega, h2, H.jb, .inr (by rw [Nat.add_sub_cancel]; exact hq), H.hi⟩
theorem One.down {l : List VP} {m b x i j h : Nat} (H : One l m b x i j) (h1 : i ≤ h) (h2 : h < j) (hq : ¬ (l.getD h zP).a < (l.getD x zP).a) : One l m b x i h := ⟨H.mi, h1, by have := H.jb; omega, H.lo, .inr hq⟩
/-- The one ahead, carried on to k. -/
structure Car (l : List VP) (a i k : Nat) (y : List VP) : Prop where
  mv : Mv a (k + 1) l y
  ak : a ≤ k
  ki : k < i
  at_ : y.getD k zP = l.getD a zP
  lo : ∀ p, a ≤ p → p < k → y.getD p zP = l.getD (p + 1) zP
theorem Car.zero {l : List VP} {a i : Nat} (h : a < i) : Car l a i a l := ⟨Mv.refl _ _ _, Nat.le_refl _, h, rfl, fun p h1 h2 => by omega⟩
theorem Car.step {l y : List VP} {a i k : Nat} (h : Car l a i k y) (hk : k + 1 < i) (hil : i ≤ l.length) (hlt : (l.getD (k + 1) zP).a < (l.getD a zP).a) : Car l a i (k + 1) (sw y k) := by
  have hl := h.mv.same.len
  have hak := h.ak
  have e1 : y.getD (k + 1) zP = l.getD (k + 1) zP := h.mv.out _ (.inr (Nat.le_refl _))
  refine ⟨(h.mv.wide (Nat.le_refl _) (by omega)).trans ((sw_mv (by omega) (by rw [e1, h.at_]; exact hlt)).wide hak (Nat.le_refl _)), by omega, hk, ?_, fun p h1 h2 => ?_⟩
  · rw [sw_at (by omega), if_neg (by omega), if_pos rfl, h.at_]
  · rw [sw_at (by omega)]
    by_cases c : p = k
    · rw [if_pos c, e1, c]
    · rw [if_neg c, if_neg (by omega)]; exact h.lo p h1 (by omega)
theorem Car.fin {l y : List VP} {a m b i k : Nat} (h : Car l a i k y) (hO : One l m b a i i) (hk : k + 1 = i) (hm : m = a + 1) (hv : Up l m b) : Mv a b l y ∧ Up y a b := by
  have h1 := hO.mi; have h2 := hO.jb; have h3 := h.ak
  refine ⟨h.mv.wide (Nat.le_refl _) (by omega), fun p q p1 p2 p3 => ?_⟩
  have o : ∀ q, k < q → y.getD q zP = l.getD q zP := fun q hq => h.mv.out q (.inr (by omega))
  have hi1 : ∀ q, i ≤ q → q < b → (l.getD a zP).a ≤ (l.getD q zP).a := fun q g1 g2 => by
    rcases hO.hi with g | g
    · omega
    · have := hv.le (i := i) (j := q) h1 g1 g2; omega
  have lo1 : ∀ q, m ≤ q → q < i → (l.getD q zP).a ≤ (l.getD a zP).a := fun q g1 g2 => by
    rcases hO.lo with g | g
    · omega
    · have := hv.le (i := q) (j := i - 1) g1 (by omega) (by omega); omega
  rcases Nat.lt_trichotomy q k with c | c | c
  · rw [h.lo p p1 (by omega), h.lo q (by omega) c]; exact hv.le (by omega) (by omega) (by omega)
  · rw [h.lo p p1 (by omega), c, h.at_]; exact lo1 _ (by omega) (by omega)
  · rw [o q c]
    rcases Nat.lt_trichotomy p k with c2 | c2 | c2
    · rw [h.lo p p1 c2]; exact hv.le (by omega) (by omega) p3
    · rw [c2, h.at_]; exact hi1 q (by omega) p3
    · rw [o p c2]; exact hv.le (by omega) (by omega) p3
/-- The last one: where it goes. -/
structure Las (l : List VP) (a m i j : Nat) : Prop where
  ai : a ≤ i
  ij : i ≤ j
  jm : j ≤ m
  lo : i = a ∨ ¬ (l.getD m zP).a < (l.getD (i - 1) zP).a
  hi : j = m ∨ (l.getD m zP).a < (l.getD j zP).a
theorem Las.zero {l : List VP} {a m : Nat} (h : a ≤ m) : Las l a m a m := ⟨Nat.le_refl _, h, Nat.le_refl _, .inl rfl, .inl rfl⟩
theorem Las.up {l : List VP} {a m i j h : Nat} (H : Las l a m i j) (h1 : i ≤ h) (h2 : h < j) (hq : ¬ (l.getD m zP).a < (l.getD h zP).a) : Las l a m (h + 1) j := ⟨by have := H.ai; omega, h2, H.jm, .inr (by rw [Nat.add_sub_cancel]; exact hq), H.hi⟩
theorem Las.down {l : List VP} {a m i j h : Nat} (H : Las l a m i j) (h1 : i ≤ h) (h2 : h < j) (hq : (l.getD m zP).a < (l.getD h zP).a) : Las l a m i h := ⟨H.ai, h1, by have := H.jm; omega, H.lo, .inr hq⟩
/-- The last one, carried down to k. -/
structure Dow (l : List VP) (i m k : Nat) (y : List VP) : Prop where
  mv : Mv k (m + 1) l y
  km : k ≤ m
  ik : i ≤ k
  at_ : y.getD k zP = l.getD m zP
  hi : ∀ p, k < p → p ≤ m → y.getD p zP = l.getD (p - 1) zP
theorem Dow.zero {l : List VP} {i m : Nat} (h : i ≤ m) : Dow l i m m l := ⟨Mv.refl _ _ _, Nat.le_refl _, h, rfl, fun p h1 h2 => by omega⟩
theorem Dow.step {l y : List VP} {i m k : Nat} (h : Dow l i m (k + 1) y) (hk : i ≤ k) (hml : m + 1 ≤ l.length) (hlt : (l.getD m zP).a < (l.getD k zP).a) : Dow l i m k (sw y k) := by
  have hl := h.mv.same.len
  have hkm := h.km
  have e1 : y.getD k zP = l.getD k zP := h.mv.out _ (.inl (Nat.lt_succ_self k))
  refine ⟨(h.mv.wide (by omega) (Nat.le_refl _)).trans ((sw_mv (by omega) (by rw [e1, h.at_]; exact hlt)).wide (Nat.le_refl _) (by omega)), by omega, hk, ?_, fun p h1 h2 => ?_⟩
  · rw [sw_at (by omega), if_pos rfl, h.at_]
  · rw [sw_at (by omega), if_neg (by omega)]
    by_cases c : p = k + 1
    · rw [if_pos c, e1, c, Nat.add_sub_cancel]
    · rw [if_neg c]; exact h.hi p (by omega) h2
theorem Dow.fin {l y : List VP} {a m b i : Nat} (h : Dow l i m i y) (hO : Las l a m i i) (hb : b = m + 1) (hu : Up l a m) : Mv a b l y ∧ Up y a b := by
  have h1 := hO.ai; have h2 := hO.jm
  refine ⟨h.mv.wide h1 (by omega), fun p q p1 p2 p3 => ?_⟩
  have o : ∀ q, q < i → y.getD q zP = l.getD q zP := fun q hq => h.mv.out q (.inl hq)
  have hi1 : ∀ q, i ≤ q → q < m → (l.getD m zP).a ≤ (l.getD q zP).a := fun q g1 g2 => by
    rcases hO.hi with g | g
    · omega
    · have := hu.le (i := i) (j := q) h1 g1 g2; omega
  have lo1 : ∀ q, a ≤ q → q < i → (l.getD q zP).a ≤ (l.getD m zP).a := fun q g1 g2 => by
    rcases hO.lo with g | g
    · omega
    · have := hu.le (i := q) (j := i - 1) g1 (by omega) (by omega); omega
  rcases Nat.lt_trichotomy q i with c | c | c
  · rw [o p (by omega), o q c]; exact hu.le p1 (by omega) (by omega)
  · rw [o p (by omega), c, h.at_]; exact lo1 p p1 (by omega)
  · rw [h.hi q c (by omega)]
    rcases Nat.lt_trichotomy p i with c2 | c2 | c2
    · rw [o p c2]; exact hu.le p1 (by omega) (by omega)
    · rw [c2, h.at_]; exact hi1 _ (by omega) (by omega)
    · rw [h.hi p c2 (by omega)]; exact hu.le (by omega) (by omega) (by omega)
end Go.W

/- Halving. -/
set_option linter.unusedVariables false
namespace Go.Sx
open Go Go.RowKit
variable {C : Cx} {env : Env} {m : List Ent} {o : Oper}
theorem fr_shr1 {T x y T' p} (ho : o.op = .binOp .shr T x y T') (hx : ev env x = some (.int .u64 p)) (hy : ev env y = some (.int .u64 1)) : Free C o env m (.int .u64 (p / 2)) := by
  have := fr_shr (C := C) (m := m) ho hx hy (by omega)
  rwa [show (2 : Int) ^ min (1 : Int).toNat IntKind.u64.bits = 2 from rfl] at this
end Go.Sx
namespace Go.W
open Go Go.Sx
variable {l : List VP} {a m b mid s e i j k h : Nat}
theorem sw_eq2 {y : List VP} : (y.set k (y.getD (k + 1) zP)).set (k + 1) (y.getD k zP) = sw y k := by
  unfold sw; rw [List.set_comm _ _ (by omega)]
theorem Dow.down {y : List VP} (h : Dow l i m k y) (hk : i < k) (hml : m + 1 ≤ l.length) (hlt : (l.getD m zP).a < (l.getD (k - 1) zP).a) : Dow l i m (k - 1) (sw y (k - 1)) := by
  obtain ⟨q, rfl⟩ : ∃ q, k = q + 1 := ⟨k - 1, by omega⟩
  exact h.step (by omega) hml hlt
end Go.W

/- Sorting by blocks. -/
set_option linter.unusedVariables false
set_option linter.unusedSimpArgs false
namespace Go.W
open Go Go.Sx
/-- Sorted within the blocks of B. -/
def Bs (B : Nat) (l : List VP) (lo hi : Nat) : Prop := ∀ i j, lo ≤ i → i < j → j < hi → i / B = j / B → (l.getD i zP).a ≤ (l.getD j zP).a
def OkB (B : Nat) : Prop := B = 20 ∨ B = 40 ∨ B = 80 ∨ B = 160
/-- What holds while the first blocks are sorted. -/
structure B1 (l0 : List VP) (n a : Nat) (l : List VP) : Prop where
  same : Same l0 l
  an : a ≤ n
  am : a % 20 = 0
  bs : Bs 20 l 0 a
theorem B1.zero {l : List VP} {n : Nat} : B1 l n 0 l := ⟨Same.refl l, Nat.zero_le _, rfl, fun i j h1 h2 h3 => by omega⟩
theorem B1.step {l0 l x : List VP} {n a : Nat} (h : B1 l0 n a l) (hn : a + 20 ≤ n) (hm : Mv a (a + 20) l x) (hu : Up x a (a + 20)) : B1 l0 n (a + 20) x :=
  ⟨h.same.trans hm.same, hn, by have := h.am; omega, fun i j h1 h2 h3 h4 => by
    have h5 := h.am
    rcases Nat.lt_or_ge j a with c | c
    · rw [hm.out i (.inl (by omega)), hm.out j (.inl c)]; exact h.bs i j h1 h2 c h4
    · exact hu i j (by omega) h2 h3⟩
/-- What holds while the blocks of B are merged two by two. -/
structure B2 (l0 : List VP) (n B a : Nat) (l : List VP) : Prop where
  same : Same l0 l
  an : a ≤ n
  am : a % (2 * B) = 0
  hi : Bs (2 * B) l 0 a
  lo : Bs B l a n
theorem B1.fin {l0 l x : List VP} {n a : Nat} (h : B1 l0 n a l) (hn : n < a + 20) (hm : Mv a n l x) (hu : Up x a n) : Same l0 x ∧ Bs 20 x 0 n :=
  ⟨h.same.trans hm.same, fun i j h1 h2 h3 h4 => by
    have h5 := h.am
    rcases Nat.lt_or_ge j a with c | c
    · rw [hm.out i (.inl (by omega)), hm.out j (.inl c)]; exact h.bs i j h1 h2 c h4
    · exact hu i j (by omega) h2 h3⟩
theorem B2.zero {l0 l : List VP} {n B : Nat} (hs : Same l0 l) (h : Bs B l 0 n) : B2 l0 n B 0 l := ⟨hs, Nat.zero_le _, Nat.zero_mod _, fun i j h1 h2 h3 => by omega, h⟩
theorem B2.ups {l0 l : List VP} {n B a b : Nat} (h : B2 l0 n B a l) (hB : OkB B) (hb : b ≤ n) (hb2 : b ≤ a + 2 * B) : Up l a (min (a + B) b) ∧ Up l (a + B) b := by
  have h5 := h.am
  refine ⟨fun i j h1 h2 h3 => h.lo i j h1 h2 (by omega) ?_, fun i j h1 h2 h3 => h.lo i j (by omega) h2 (by omega) ?_⟩ <;> rcases hB with rfl | rfl | rfl | rfl <;> omega
theorem B2.step {l0 l x : List VP} {n B a : Nat} (h : B2 l0 n B a l) (hB : OkB B) (hn : a + 2 * B ≤ n) (hm : Mv a (a + 2 * B) l x) (hu : Up x a (a + 2 * B)) : B2 l0 n B (a + 2 * B) x := by
  have h5 := h.am
  refine ⟨h.same.trans hm.same, hn, by rw [Nat.add_mod_right]; exact h5, fun i j h1 h2 h3 h4 => ?_, fun i j h1 h2 h3 h4 => ?_⟩
  · rcases Nat.lt_or_ge j a with c | c
    · rw [hm.out i (.inl (by omega)), hm.out j (.inl c)]; exact h.hi i j h1 h2 c h4
    · refine hu i j ?_ h2 h3
      rcases hB with rfl | rfl | rfl | rfl <;> omega
  · rw [hm.out i (.inr h1), hm.out j (.inr (by omega))]; exact h.lo i j (by omega) h2 h3 h4
theorem B2.last {l0 l x : List VP} {n B a : Nat} (h : B2 l0 n B a l) (hB : OkB B) (hn : n < a + 2 * B) (hm : Mv a n l x) (hu : Up x a n) : Same l0 x ∧ Bs (2 * B) x 0 n := by
  have h5 := h.am
  refine ⟨h.same.trans hm.same, fun i j h1 h2 h3 h4 => ?_⟩
  rcases Nat.lt_or_ge j a with c | c
  · rw [hm.out i (.inl (by omega)), hm.out j (.inl c)]; exact h.hi i j h1 h2 c h4
  · refine hu i j ?_ h2 h3
    rcases hB with rfl | rfl | rfl | rfl <;> omega
theorem B2.none {l0 l : List VP} {n B a : Nat} (h : B2 l0 n B a l) (hB : OkB B) (hn : n ≤ a + B) : Same l0 l ∧ Bs (2 * B) l 0 n := by
  have h5 := h.am
  refine ⟨h.same, fun i j h1 h2 h3 h4 => ?_⟩
  rcases Nat.lt_or_ge j a with c | c
  · exact h.hi i j h1 h2 c h4
  · refine h.lo i j ?_ h2 h3 ?_ <;> rcases hB with rfl | rfl | rfl | rfl <;> omega
theorem Bs.all {B n : Nat} {l : List VP} (h : Bs B l 0 n) (hn : n ≤ B) (hB : OkB B) : Up l 0 n := fun i j h1 h2 h3 => h i j h1 h2 h3 (by rcases hB with rfl | rfl | rfl | rfl <;> omega)
theorem OkB.two {B n : Nat} (h : OkB B) (hn : B < n) (h2 : n ≤ 120) : OkB (2 * B) := by unfold OkB at *; omega
end Go.W

/- Two lists of totals, sorted as one, are what is merged. -/
set_option linter.unusedVariables false
set_option linter.unusedSimpArgs false
namespace Go.W
open Go Go.Sx
/-- Both lists, sorted by days, nothing left out. -/
def mrg : List VP → List VP → List VP
  | [], t => t
  | x :: s, [] => x :: s
  | x :: s, y :: t => if y.a < x.a then y :: mrg (x :: s) t else x :: mrg s (y :: t)
termination_by s t => s.length + t.length
def Srt (l : List VP) : Prop := l.Pairwise fun x y => x.a ≤ y.a
def Str (l : List VP) : Prop := l.Pairwise fun x y => x.a < y.a
theorem Str.srt {l : List VP} (h : Str l) : Srt l := List.Pairwise.imp (fun h => by omega) h
theorem mrg_nil (s : List VP) : mrg s [] = s := by cases s <;> rw [mrg]
theorem mrg_mem : ∀ (n : Nat) (s t : List VP), s.length + t.length ≤ n → ∀ z, z ∈ mrg s t → z ∈ s ∨ z ∈ t := by
  intro n
  induction n with
  | zero => intro s t h z hz; cases s <;> cases t <;> simp_all [mrg]
  | succ n ih =>
    intro s t h z hz
    match s, t with
    | [], t => rw [mrg] at hz; exact .inr hz
    | x :: s, [] => rw [mrg] at hz; exact .inl hz
    | x :: s, y :: t =>
      rw [mrg] at hz
      simp only [List.length_cons] at h
      split at hz
      · rcases List.mem_cons.1 hz with rfl | hz
        · simp
        · rcases ih (x :: s) t (by simp only [List.length_cons]; omega) z hz with h1 | h1
          · exact .inl h1
          · exact .inr (List.mem_cons_of_mem _ h1)
      · rcases List.mem_cons.1 hz with rfl | hz
        · simp
        · rcases ih s (y :: t) (by simp only [List.length_cons]; omega) z hz with h1 | h1
          · exact .inl (List.mem_cons_of_mem _ h1)
          · exact .inr h1
theorem mrg_in {s t : List VP} {z : VP} (h : z ∈ mrg s t) : z ∈ s ∨ z ∈ t := mrg_mem _ s t (Nat.le_refl _) z h
theorem mrg_len : ∀ (n : Nat) (s t : List VP), s.length + t.length ≤ n → (mrg s t).length = s.length + t.length := by
  intro n
  induction n with
  | zero => intro s t h; cases s <;> cases t <;> simp_all [mrg]
  | succ n ih =>
    intro s t h
    match s, t with
    | [], t => rw [mrg]; simp
    | x :: s, [] => rw [mrg]; simp
    | x :: s, y :: t =>
      simp only [List.length_cons] at h
      rw [mrg]
      split
      · rw [List.length_cons, ih (x :: s) t (by simp only [List.length_cons]; omega)]; simp only [List.length_cons]; omega
      · rw [List.length_cons, ih s (y :: t) (by simp only [List.length_cons]; omega)]; simp only [List.length_cons]; omega
theorem mrg_srt : ∀ (n : Nat) (s t : List VP), s.length + t.length ≤ n → Srt s → Srt t → Srt (mrg s t) := by
  intro n
  induction n with
  | zero => intro s t h _ _; cases s <;> cases t <;> simp_all [mrg, Srt]
  | succ n ih =>
    intro s t h hs ht
    match s, t with
    | [], t => rw [mrg]; exact ht
    | x :: s, [] => rw [mrg]; exact hs
    | x :: s, y :: t =>
      simp only [List.length_cons] at h
      obtain ⟨hs1, hs2⟩ := List.pairwise_cons.1 hs
      obtain ⟨ht1, ht2⟩ := List.pairwise_cons.1 ht
      rw [mrg]
      split
      · next h3 =>
        refine List.pairwise_cons.2 ⟨fun z hz => ?_, ih (x :: s) t (by simp only [List.length_cons]; omega) hs ht2⟩
        rcases mrg_in hz with h1 | h1
        · rcases List.mem_cons.1 h1 with rfl | h1
          · omega
          · have := hs1 z h1; omega
        · exact ht1 z h1
      · next h3 =>
        refine List.pairwise_cons.2 ⟨fun z hz => ?_, ih s (y :: t) (by simp only [List.length_cons]; omega) hs2 ht⟩
        rcases mrg_in hz with h1 | h1
        · exact hs1 z h1
        · rcases List.mem_cons.1 h1 with rfl | h1
          · omega
          · have := ht1 z h1; omega
theorem dayF_none {d : Int} {l : List VP} (h : ∀ x, x ∈ l → x.a ≠ d) : dayF d l = [] := by
  unfold dayF; rw [List.filter_eq_nil_iff]; intro x hx; simpa using h x hx
theorem dayF_y {d : Int} {x : VP} {l : List VP} (h : x.a = d) : dayF d (x :: l) = x :: dayF d l := by unfold dayF; rw [List.filter_cons, if_pos (by simpa using h)]
theorem dayF_n {d : Int} {x : VP} {l : List VP} (h : x.a ≠ d) : dayF d (x :: l) = dayF d l := by unfold dayF; rw [List.filter_cons, if_neg (by simpa using h)]
theorem mrg_day (d : Int) : ∀ (n : Nat) (s t : List VP), s.length + t.length ≤ n → Srt s → dayF d (mrg s t) = dayF d s ++ dayF d t := by
  intro n
  induction n with
  | zero => intro s t h _; cases s <;> cases t <;> simp_all [mrg, dayF]
  | succ n ih =>
    intro s t h hs
    match s, t with
    | [], t => rw [mrg]; simp [dayF]
    | x :: s, [] => rw [mrg]; simp [dayF]
    | x :: s, y :: t =>
      simp only [List.length_cons] at h
      obtain ⟨hs1, hs2⟩ := List.pairwise_cons.1 hs
      rw [mrg]
      split
      · next h3 =>
        have h4 := ih (x :: s) t (by simp only [List.length_cons]; omega) hs
        by_cases e : y.a = d
        · have h5 : dayF d (x :: s) = [] := dayF_none fun z hz => by
            rcases List.mem_cons.1 hz with rfl | hz
            · omega
            · have := hs1 z hz; omega
          rw [dayF_y e, dayF_y e, h4, h5]; rfl
        · rw [dayF_n e, dayF_n e, h4]
      · next h3 =>
        have h4 := ih s (y :: t) (by simp only [List.length_cons]; omega) hs2
        by_cases e : x.a = d
        · rw [dayF_y e, dayF_y e, h4]; rfl
        · rw [dayF_n e, dayF_n e, h4]
theorem dayF_mem {d : Int} {l : List VP} {x : VP} (h : x ∈ dayF d l) : x ∈ l := (List.mem_filter.1 h).1
theorem srt_uniq : ∀ (l l' : List VP), Srt l → Srt l' → (∀ d, dayF d l = dayF d l') → l = l'
  | [], [], _, _, _ => rfl
  | [], y :: l', _, _, h => by have := h y.a; rw [dayF_y rfl] at this; simp [dayF] at this
  | x :: l, [], _, _, h => by have := h x.a; rw [dayF_y rfl] at this; simp [dayF] at this
  | x :: l, y :: l', hs, hs', h => by
    obtain ⟨h1, h2⟩ := List.pairwise_cons.1 hs
    obtain ⟨h1', h2'⟩ := List.pairwise_cons.1 hs'
    have e1 : x.a ≤ y.a := by
      have h3 := h y.a
      rw [dayF_y (x := y) rfl] at h3
      have h4 : y ∈ x :: l := dayF_mem (d := y.a) (by rw [h3]; simp)
      rcases List.mem_cons.1 h4 with rfl | h4
      · omega
      · exact h1 y h4
    have e2 : y.a ≤ x.a := by
      have h3 := h x.a
      rw [dayF_y (x := x) rfl] at h3
      have h4 : x ∈ y :: l' := dayF_mem (d := x.a) (by rw [← h3]; simp)
      rcases List.mem_cons.1 h4 with rfl | h4
      · omega
      · exact h1' x h4
    have e : x.a = y.a := by omega
    have h3 := h x.a
    rw [dayF_y rfl, dayF_y e.symm] at h3
    obtain ⟨rfl, h4⟩ := List.cons.inj h3
    congr 1
    refine srt_uniq l l' h2 h2' fun d => ?_
    by_cases hd : x.a = d
    · subst hd; exact h4
    · have := h d; rwa [dayF_n hd, dayF_n hd] at this
theorem up_srt {l : List VP} {n : Nat} (hn : l.length = n) (h : Up l 0 n) : Srt l := by
  unfold Srt
  rw [List.pairwise_iff_getElem]
  intro i j hi hj hij
  have := h i j (Nat.zero_le _) hij (by omega)
  simpa [List.getD, hi, hj] using this
theorem tot_str {l : List VP} (h : Tot l) : Str l := by
  unfold Str
  rw [List.pairwise_iff_getElem]
  intro i j hi hj hij
  have key : ∀ k, i + 1 + k < l.length → (l.getD i zP).a < (l.getD (i + 1 + k) zP).a := by
    intro k
    induction k with
    | zero => intro h2; exact (h.up i h2).1
    | succ k ih => intro h2; have h3 := ih (by omega); have h4 := (h.up (i + 1 + k) (by omega)).1; rw [show i + 1 + (k + 1) = i + 1 + k + 1 by omega]; omega
  have := key (j - (i + 1)) (by omega)
  rw [show i + 1 + (j - (i + 1)) = j by omega] at this
  simpa [List.getD, hi, hj] using this
/-- What is sorted stands as it is merged. -/
theorem sorted_mrg {s t u : List VP} {n : Nat} (hs : Tot s) (ht : Tot t) (hn : n = s.length + t.length) (h1 : Same (s ++ t) u) (h2 : Up u 0 n) : u = mrg s t := by
  have hl := h1.len
  rw [List.length_append] at hl
  refine srt_uniq _ _ (up_srt (by omega) h2) (mrg_srt _ s t (Nat.le_refl _) (tot_str hs).srt (tot_str ht).srt) fun d => ?_
  rw [h1.day d, mrg_day d _ s t (Nat.le_refl _) (tot_str hs).srt]
  unfold dayF; rw [List.filter_append]
/-! neighbours that are alike, told once -/
def likeP (x y : VP) : Bool := decide (x.a = y.a ∧ x.b = y.b)
def cpt : List VP → List VP
  | [] => []
  | [x] => [x]
  | x :: y :: l => if likeP x y = true then cpt (y :: l) else x :: cpt (y :: l)
theorem vp_ext {x y : VP} (h : likeP x y = true) : x = y := by
  unfold likeP at h; rw [decide_eq_true_iff] at h
  cases x; cases y; simp_all
theorem cpt_new {x : VP} {l : List VP} (h : ∀ z, z ∈ l → x.a ≠ z.a) : cpt (x :: l) = x :: cpt l := by
  cases l with
  | nil => rfl
  | cons y l =>
    rw [cpt, if_neg]
    intro h2
    unfold likeP at h2; rw [decide_eq_true_iff] at h2
    exact h y (by simp) h2.1
theorem cpt_str : ∀ {l : List VP}, Str l → cpt l = l
  | [], _ => rfl
  | x :: l, h => by
    obtain ⟨h1, h2⟩ := List.pairwise_cons.1 h
    rw [cpt_new (fun z hz => by have := h1 z hz; omega), cpt_str h2]
theorem cpt_hd (y : VP) : ∀ (l : List VP), ∃ m, cpt (y :: l) = y :: m ∨ ∃ z, z.a = y.a ∧ cpt (y :: l) = z :: m
  | [] => ⟨[], .inl rfl⟩
  | z :: l => by
    rw [cpt]
    split
    · next h =>
      obtain rfl := vp_ext h
      exact cpt_hd y l
    · exact ⟨_, .inl rfl⟩
theorem cpt_head (y : VP) (l : List VP) : ∃ z m, z.a = y.a ∧ cpt (y :: l) = z :: m := by
  obtain ⟨m, h | ⟨z, h1, h2⟩⟩ := cpt_hd y l
  · exact ⟨y, m, rfl, h⟩
  · exact ⟨z, m, h1, h2⟩
/-- Two neighbours of one day. -/
def Twice (l : List VP) : Prop := ∃ i, i + 1 < l.length ∧ (l.getD i zP).a = (l.getD (i + 1) zP).a
theorem Twice.cons {x : VP} {l : List VP} (h : Twice l) : Twice (x :: l) := by
  obtain ⟨i, h1, h2⟩ := h
  exact ⟨i + 1, by simpa using h1, by simpa [List.getD] using h2⟩
theorem mrg_both {x y : VP} {s t : List VP} (hs : ∀ z, z ∈ s → y.a < z.a) (h : ¬ y.a < x.a) : mrg (x :: s) (y :: t) = x :: y :: mrg s t := by
  rw [mrg, if_neg h]
  cases s with
  | nil => rw [mrg, mrg]
  | cons x' s => rw [mrg, if_pos (hs x' (by simp))]
theorem mg_step {x : VP} {s t : List VP} (ht : ∀ z, z ∈ t → x.a < z.a) : mg (x :: s) t = x :: mg s t ∧ cf (x :: s) t = cf s t := by
  cases t with
  | nil => rw [mg_nil, mg_nil, cf_nil, cf_nil]; exact ⟨rfl, rfl⟩
  | cons y t =>
    have := ht y (by simp)
    constructor
    · rw [mg, if_neg (by omega), if_neg (by omega)]
    · rw [cf, if_neg (by omega), if_neg (by omega)]
theorem cpt_mrg : ∀ (n : Nat) (s t : List VP), s.length + t.length ≤ n → Str s → Str t → (cf s t = false → cpt (mrg s t) = mg s t) ∧ (cf s t = true → Twice (cpt (mrg s t))) := by
  intro n
  induction n with
  | zero => intro s t h _ _; cases s <;> cases t <;> simp_all [mrg, mg, cf, cpt]
  | succ n ih =>
    intro s t h hs ht
    match s, t with
    | [], t => exact ⟨fun _ => by rw [mrg, mg, cpt_str ht], fun h2 => by rw [cf] at h2; cases h2⟩
    | x :: s, [] => exact ⟨fun _ => by rw [mrg, mg, cpt_str hs], fun h2 => by rw [cf] at h2; cases h2⟩
    | x :: s, y :: t =>
      simp only [List.length_cons] at h
      obtain ⟨hs1, hs2⟩ := List.pairwise_cons.1 hs
      obtain ⟨ht1, ht2⟩ := List.pairwise_cons.1 ht
      by_cases e : x.a = y.a
      · have e1 := mrg_both (x := x) (y := y) (s := s) (t := t) (fun z hz => by have := hs1 z hz; omega) (by omega)
        have hM : ∀ z, z ∈ mrg s t → y.a ≠ z.a := fun z hz => by
          rcases mrg_in hz with h1 | h1
          · have := hs1 z h1; omega
          · have := ht1 z h1; omega
        obtain ⟨i1, i2⟩ := ih s t (by omega) hs2 ht2
        obtain ⟨m1, m2⟩ := mg_step (x := x) (s := s) (t := t) (fun z hz => by have := ht1 z hz; omega)
        rw [e1, mg, if_pos e, cf, if_pos e, m1, m2]
        by_cases e2 : x.b = y.b
        · have e3 : x = y := by cases x; cases y; simp_all
          subst e3
          rw [cpt, if_pos (by unfold likeP; simp), cpt_new hM, decide_eq_false (by simp), Bool.false_or]
          exact ⟨fun h2 => by rw [i1 h2], fun h2 => (i2 h2).cons⟩
        · rw [decide_eq_true e2, Bool.true_or]
          refine ⟨fun h2 => (nomatch h2), fun _ => ?_⟩
          rw [cpt, if_neg (by unfold likeP; simp [e2])]
          obtain ⟨z, m, hz, hc⟩ := cpt_head y (mrg s t)
          rw [hc]
          exact ⟨0, by simp, by simp [List.getD, hz, e]⟩
      · by_cases e2 : y.a < x.a
        · obtain ⟨i1, i2⟩ := ih (x :: s) t (by simp only [List.length_cons]; omega) hs ht2
          have hM : ∀ z, z ∈ mrg (x :: s) t → y.a ≠ z.a := fun z hz => by
            rcases mrg_in hz with h1 | h1
            · rcases List.mem_cons.1 h1 with rfl | h1
              · omega
              · have := hs1 z h1; omega
            · have := ht1 z h1; omega
          rw [mrg, if_pos e2, mg, if_neg e, if_pos e2, cf, if_neg e, if_pos e2, cpt_new hM]
          exact ⟨fun h2 => by rw [i1 h2], fun h2 => (i2 h2).cons⟩
        · obtain ⟨i1, i2⟩ := ih s (y :: t) (by simp only [List.length_cons]; omega) hs2 ht
          have hM : ∀ z, z ∈ mrg s (y :: t) → x.a ≠ z.a := fun z hz => by
            rcases mrg_in hz with h1 | h1
            · have := hs1 z h1; omega
            · rcases List.mem_cons.1 h1 with rfl | h1
              · omega
              · have := ht1 z h1; omega
          rw [mrg, if_neg e2, mg, if_neg e, if_neg e2, cf, if_neg e, if_neg e2, cpt_new hM]
          exact ⟨fun h2 => by rw [i1 h2], fun h2 => (i2 h2).cons⟩
theorem mg_in : ∀ (n : Nat) (s t : List VP), s.length + t.length ≤ n → ∀ z, z ∈ mg s t → z ∈ s ∨ z ∈ t := by
  intro n
  induction n with
  | zero => intro s t h z hz; cases s <;> cases t <;> simp_all [mg]
  | succ n ih =>
    intro s t h z hz
    match s, t with
    | [], t => rw [mg] at hz; exact .inr hz
    | x :: s, [] => rw [mg] at hz; exact .inl hz
    | x :: s, y :: t =>
      rw [mg] at hz
      simp only [List.length_cons] at h
      split at hz
      · rcases ih (x :: s) t (by simp only [List.length_cons]; omega) z hz with h1 | h1
        · exact .inl h1
        · exact .inr (List.mem_cons_of_mem _ h1)
      · split at hz
        · rcases List.mem_cons.1 hz with rfl | hz
          · simp
          · rcases ih (x :: s) t (by simp only [List.length_cons]; omega) z hz with h1 | h1
            · exact .inl h1
            · exact .inr (List.mem_cons_of_mem _ h1)
        · rcases List.mem_cons.1 hz with rfl | hz
          · simp
          · rcases ih s (y :: t) (by simp only [List.length_cons]; omega) z hz with h1 | h1
            · exact .inl (List.mem_cons_of_mem _ h1)
            · exact .inr h1
theorem mg_str : ∀ (n : Nat) (s t : List VP), s.length + t.length ≤ n → Str s → Str t → Str (mg s t) := by
  intro n
  induction n with
  | zero => intro s t h _ _; cases s <;> cases t <;> simp_all [mg, Str]
  | succ n ih =>
    intro s t h hs ht
    match s, t with
    | [], t => rw [mg]; exact ht
    | x :: s, [] => rw [mg]; exact hs
    | x :: s, y :: t =>
      simp only [List.length_cons] at h
      obtain ⟨hs1, hs2⟩ := List.pairwise_cons.1 hs
      obtain ⟨ht1, ht2⟩ := List.pairwise_cons.1 ht
      rw [mg]
      split
      · exact ih (x :: s) t (by simp only [List.length_cons]; omega) hs ht2
      · split
        · refine List.pairwise_cons.2 ⟨fun z hz => ?_, ih (x :: s) t (by simp only [List.length_cons]; omega) hs ht2⟩
          rcases mg_in _ _ _ (Nat.le_refl _) z hz with h1 | h1
          · rcases List.mem_cons.1 h1 with rfl | h1
            · omega
            · have := hs1 z h1; omega
          · exact ht1 z h1
        · refine List.pairwise_cons.2 ⟨fun z hz => ?_, ih s (y :: t) (by simp only [List.length_cons]; omega) hs2 ht⟩
          rcases mg_in _ _ _ (Nat.le_refl _) z hz with h1 | h1
          · exact hs1 z h1
          · rcases List.mem_cons.1 h1 with rfl | h1
            · omega
            · have := ht1 z h1; omega
theorem not_twice {s t : List VP} (hs : Tot s) (ht : Tot t) : ¬ Twice (mg s t) := by
  rintro ⟨i, h1, h2⟩
  have h := mg_str _ s t (Nat.le_refl _) (tot_str hs) (tot_str ht)
  unfold Str at h
  rw [List.pairwise_iff_getElem] at h
  have := h i (i + 1) (by omega) h1 (by omega)
  simp only [List.getD, List.getElem?_eq_getElem (show i < (mg s t).length by omega), List.getElem?_eq_getElem h1, Option.getD_some] at h2
  omega
theorem cf_twice {s t : List VP} (hs : Tot s) (ht : Tot t) {i : Nat} (h1 : i + 1 < (cpt (mrg s t)).length) (h2 : ((cpt (mrg s t)).getD i zP).a = ((cpt (mrg s t)).getD (i + 1) zP).a) : cf s t = true := by
  cases h : cf s t with
  | true => rfl
  | false =>
    have e := (cpt_mrg _ s t (Nat.le_refl _) (tot_str hs) (tot_str ht)).1 h
    rw [e] at h1 h2
    exact absurd ⟨i, h1, h2⟩ (not_twice hs ht)
theorem cf_once {s t : List VP} (hs : Tot s) (ht : Tot t) (hall : ∀ i, i + 1 < (cpt (mrg s t)).length → ((cpt (mrg s t)).getD i zP).a ≠ ((cpt (mrg s t)).getD (i + 1) zP).a) : cf s t = false ∧ cpt (mrg s t) = mg s t := by
  cases h : cf s t with
  | true =>
    obtain ⟨i, h1, h2⟩ := (cpt_mrg _ s t (Nat.le_refl _) (tot_str hs) (tot_str ht)).2 h
    exact absurd h2 (hall i h1)
  | false => exact ⟨rfl, (cpt_mrg _ s t (Nat.le_refl _) (tot_str hs) (tot_str ht)).1 h⟩
end Go.W

/- Room for a list: append of zeros to nil; cap; an array behind a slice; a slice of an array from a place on. -/
set_option linter.unusedSimpArgs false
set_option linter.unusedVariables false
namespace Go.Sx
open Go Go.RowKit
variable {C : Cx} {env : Env} {m : List Ent} {o : Oper} {K : Env → List Ent → Prop}
theorem op_appendZ {d n : Nat} {s x T Tn E kn sz bytes} (ho : o.op = .call { callee := .builtin .append, args := #[s, x], argTypes := #[T, Tn] })
    (hs : ev env s = some (.slice none 0 0)) (hx : ev env x = some (.int .i64 (n : Nat))) (hT : C.P.underlying T = some (.slice E)) (hTn : C.P.underlying Tn = some (.int kn)) (hz : (C.P.info? E).map (fun i => (i.size, i.bytes, i.zero.map (·.cells.size))) = some (sz, bytes, some sz)) (hp0 : Nat.blt 0 sz = true)
    (hn : 0 < n) (hb : n * bytes ≤ 140737488355328 ∧ n ≤ maxLen) (hd : o.dst = some d) (hlt : Nat.blt d C.n = true)
    (h : ∀ b c', K ((d, .slice (some ⟨b, 0, none⟩) n c') :: env) (.row (.slice (some ⟨b, 0, none⟩) 0 c') E sz 0 [] :: m)) : Op1 C o env m K := by
  have hpos : 0 < sz := by simpa using hp0
  have hmx : maxLen = 9223372036854775807 := rfl
  refine Op1.of_run hd hlt fun a w hr hh => ?_
  cases hq : C.P.info? E with
  | none => simp [hq] at hz
  | some inf =>
    simp only [hq, Option.map_some, Option.some.injEq, Prod.mk.injEq] at hz
    obtain ⟨h1, h2, h3⟩ := hz
    cases hzz : inf.zero with
    | none => simp [hzz] at h3
    | some zv =>
      simp only [hzz, Option.map_some, Option.some.injEq] at h3
      have hrun := Go.Lib.run_append_nil_zeros (P := C.P) w T Tn o.type E inf zv .i64 kn hT hTn hq hzz n hn (by omega) (by omega) (by rw [h2]; omega)
      have hge := grownCap_ge w n 0 E
      have hcm := grownCap_le_maxLen w n 0 E hb.2
      have hsz : (Builtin.zeroCells zv.cells n ++ Builtin.zeroCells zv.cells (grownCap w n 0 E - n)).size = grownCap w n 0 E * sz := by
        rw [Array.size_append, size_zeroCells, size_zeroCells, h3, ← Nat.add_mul, show n + (grownCap w n 0 E - n) = grownCap w n 0 E by omega]
      refine ⟨.slice (some ⟨w.heap.size, 0, none⟩) n (grownCap w n 0 E), w.drew.alloc (.cells (Builtin.zeroCells zv.cells n ++ Builtin.zeroCells zv.cells (grownCap w n 0 E - n)) E), .row (.slice (some ⟨w.heap.size, 0, none⟩) 0 (grownCap w n 0 E)) E sz 0 [] :: m, ?_, ?_, h _ _⟩
      · simp [execOp, ho, resolve, invoke, builtin, hr.ev hs, hr.ev hx, hrun]
      · refine (hh.ext (Below.refl _ _).drew).new (w := w.drew) (below_alloc' w.drew _) ?_
        exact ⟨by simp, .inr ⟨w.heap.size, grownCap w n 0 E, _, rfl, Nat.le_refl _, heap_alloc_new w.drew _, Nat.zero_le _, hcm, hsz, by simp⟩⟩
theorem fr_cap {x T E A n c} (ho : o.op = .call { callee := .builtin .cap, args := #[x], argTypes := #[T] }) (hx : ev env x = some (.slice A n c)) (hT : C.P.underlying T = some (.slice E)) : Free C o env m (.int .i64 c) := by
  intro a w hr hw
  have h1 : (Builtin.cap_ #[T] o.type #[.slice A n c]).run C.P w = .ok (.int .i64 c) w := by
    simp [Builtin.cap_, Sem.run_bind, run_underlying hT, goInt]
  simp [execOp, ho, resolve, invoke, builtin, hr.ev hx, Sem.run_bind, h1]
theorem fr_sliceToArray {S x A n c N E} (ho : o.op = .sliceToArrayPointer S x) (hx : ev env x = some (.slice A n c)) (hS : C.P.underlying S = some (.array N E)) (hn : N ≤ n) : Free C o env m (.pointer A) := by
  intro a w hr hw
  simp [execOp, ho, hr.ev hx, Instr.arrayAt, run_underlying hS, show ¬ n < N by omega]
end Go.Sx

/- The rest of an array; what stands behind a drawn region. -/
set_option linter.unusedVariables false
set_option linter.unusedSimpArgs false
namespace Go.Sx
open Go Go.RowKit
variable {C : Cx} {env : Env} {m : List Ent} {o : Oper} {Q : Post}
theorem fr_sliceArr_l {T x y E k} {N b n' : Nat} {q : Int} (h : Nat) (hq : q = (h : Nat)) (ho : o.op = .slice T x (some y) none none) (hx : ev env x = some (.pointer (some ⟨b, 0, none⟩))) (hy : ev env y = some (.int k q)) (hT : C.P.underlying T = some (.array N E)) {sz : Nat} (hs : (C.P.info? E).map (·.size) = some sz) (hb : h ≤ N) (hn : N - h = n') : Free C o env m (.slice (cutA (some ⟨b, 0, none⟩) N h sz) n' (N - h)) := by
  subst hq hn
  intro a w hr _
  have hal : C.P.arrayLen T = N := by simp [Program.arrayLen, hT]
  have he : C.P.elem T = E := by simp [Program.elem, hT]
  have ht' : C.P.underlying T = some (.array (C.P.arrayLen T) (C.P.elem T)) := by rw [hal, he, hT]
  have h2 := run_sliceAt_array_l (P := C.P) w T ⟨b, 0, none⟩ ht' k (h : Int) (by omega) (by omega)
  rw [he, run_sizeOf hs w, Result.andThen_ok, hal] at h2
  have h3 : slicedAt ⟨b, 0, none⟩ ((h : Int).toNat) N N sz = .slice (cutA (some ⟨b, 0, none⟩) N h sz) (N - h) (N - h) := by
    unfold slicedAt cutA offA
    rw [Int.toNat_natCast]
    split <;> rfl
  rw [h3] at h2
  simp only [execOp, ho, hr.ev hx, Option.map_none, Option.map_some, hr.ev hy, Sem.run_bind, h2, Result.andThen_ok, Sem.run_pure]
theorem fr_slice_lx {T x y E A n c k n'} {q : Int} (h : Nat) (hq : q = (h : Nat)) (ho : o.op = .slice T x (some y) none none) (hx : ev env x = some (.slice A n c)) (hy : ev env y = some (.int k q)) (hT : C.P.underlying T = some (.slice E)) {sz : Nat} (hs : (C.P.info? E).map (·.size) = some sz) (hb : h ≤ n) (hn : n - h = n') : Free C o env m (.slice (cutA A c h sz) n' (c - h)) := by
  subst hn; exact fr_slice_l h hq ho hx hy hT hs hb
theorem Reads.dropL {α : Type} {f : α → List Value} {sz c : Nat} {A : Option Addr} {l : List α} (h : Reads C m A (l.flatMap f)) (hf : ∀ x, (f x).length = sz) (hc : l.length ≤ c) (k : Nat) : Reads C m (cutA A c k sz) ((l.drop k).flatMap f) := by
  unfold cutA
  split
  · rw [List.drop_of_length_le (by omega)]
    unfold Reads
    intro w hw j u hj; simp at hj
  · have h2 : (l.drop k).flatMap f = (l.flatMap f).drop (k * sz) := by
      rcases Nat.lt_or_ge k l.length with h3 | h3
      · have h4 : ((l.take k).flatMap f).length = k * sz := by rw [flat_len hf, List.length_take]; congr 1; omega
        have h5 : l.flatMap f = (l.take k).flatMap f ++ (l.drop k).flatMap f := by rw [← List.flatMap_append, List.take_append_drop]
        rw [h5, ← h4, List.drop_left]
      · rw [List.drop_of_length_le h3, List.drop_of_length_le (by rw [flat_len hf]; exact Nat.mul_le_mul_right _ h3)]; rfl
    rw [h2]; exact h.seg _
theorem Reads.zeros {α : Type} {f : α → List Value} {sz i n c : Nat} {E : TypeId} {A : Option Addr} {z : α} {zs : List Value} (hi : m[i]? = some (Ent.row (.slice A n c) E sz n (zerosL zs n))) (hz : zs = f z) (hf : ∀ x, (f x).length = sz) (hp : Nat.blt 0 sz = true) : Reads C m A ((List.replicate n z).flatMap f) := by
  subst hz
  rw [← zeros_flat hf z (by simpa using hp)]
  exact Reads.row hi
theorem Ex.cutM {id : Nat} {l : List Oper} {y : Code} (kn kp : Env) (hK : Agree kp env) (hm : C.P.follows .mixedOrders = true) (h1 : ExD C l m l.length [] env m (fun env' m' => Agree (kn ++ kp) env' ∧ ∃ t is, pickT m' t is = some m ∧ freshT t is = true)) (h2 : Ex C y (kn ++ kp) m Q) (hrd : regOk C.rd l = true := by rfl) : Ex C (.seq (.region id l.toArray true) y) env m Q := by
  refine Ex.seq (Ex.mono (Ex.draw (Q := Sq (fun env' m' => Agree (kn ++ kp) env' ∧ ∃ t is, pickT m' t is = some m ∧ freshT t is = true) (fun _ _ _ => False)) m hm h1 hrd) ?_)
  rintro e env' m' hq
  cases e with
  | normal =>
    obtain ⟨ha, t, is, hp, hf⟩ := hq
    exact fun a w hr hh => h2 a w (hr.agree ha) (hh.pickT hp hf)
  | exit k => exact hq.elim
  | goto k => exact hq.elim
  | ret => exact hq.elim
  | panic k => exact hq.elim
  | outgrown => exact hq.elim
end Go.Sx

/- Rows: cleared from a place on, cut; read through a slice of them. -/
set_option linter.unusedVariables false
set_option linter.unusedSimpArgs false
namespace Go.Sx
open Go Go.RowKit
variable {C : Cx} {env : Env} {m : List Ent} {o : Oper} {K : Env → List Ent → Prop}
theorem Op1.of_call0 {o : Oper} {K} (hd : o.dst = none)
    (h : ∀ a w, Rep C.n C.ds env a → Holds C.base C.w0 m w → ∃ v w' m', (execOp a.eval o).run C.P w = .ok (.value v) w' ∧ Holds C.base C.w0 m' w' ∧ K env m') : Op1 C o env m K := by
  intro a w hr hh
  obtain ⟨v, w', m', hrun, hh', hk⟩ := h a w hr hh
  unfold Oper.wp
  rw [hrun]
  exact ⟨env, m', by rw [hd]; exact hr, hh', hk⟩
theorem zero_one {cells : Array Value} {zs : List Value} (hc : cells = List.toArray zs) (hone : zs.all (·.oneCell') = true) (n : Nat) : ∀ v, v ∈ (Builtin.zeroCells cells n).toList → v.oneCell' = true := by
  subst hc
  intro v hv
  have hv2 : v ∈ Builtin.zeroCells zs.toArray n := by simpa using hv
  unfold Builtin.zeroCells at hv2
  rw [Array.mem_map] at hv2
  obtain ⟨i, hi, rfl⟩ := hv2
  have hi2 : i < n * zs.length := by simpa using hi
  have hpos : 0 < zs.length := by
    rcases Nat.eq_zero_or_pos zs.length with h | h
    · rw [h, Nat.mul_zero] at hi2; omega
    · exact h
  have hlt : i % zs.length < zs.length := Nat.mod_lt _ hpos
  have e : zs.toArray[i % zs.toArray.size]! = zs[i % zs.length] := by
    rw [getElem!_pos zs.toArray _ (by simpa using hlt)]; simp
  rw [e]
  exact List.all_eq_true.1 hone _ (List.getElem_mem hlt)
theorem op_clearRow {i k n' c' n c sz : Nat} {x T E z zs xs} {A : Option Addr} (ho : o.op = .call { callee := .builtin .clear, args := #[x], argTypes := #[T] }) (hx : ev env x = some (.slice (cutA A c k sz) n' c')) (hT : C.P.underlying T = some (.slice E)) (hz : (C.P.info? E).bind (·.zero) = some z) (hc : z.cells = List.toArray zs) (hone : zs.all (·.oneCell') = true) (hl : zs.length = sz)
    (hi : m[i]? = some (.row (.slice A n c) E sz n xs)) (hp : 0 < n') (hk : k + n' = n) (hkc : k < c) (hd : o.dst = none)
    (h : ∀ new : List Value, K env (m.set i (.row (.slice A n c) E sz n (put xs (k * sz) new)))) : Op1 C o env m K := by
  refine Op1.of_call0 hd fun a w hr hh => ?_
  have hr0 := hh.all _ (List.mem_of_getElem? hi)
  rcases hr0.2 with ⟨_, hn0⟩ | ⟨g, cap, cur, hv, hb, hg, hnc, hcm, hcs, ht⟩
  · omega
  · simp only [Value.slice.injEq] at hv
    obtain ⟨rfl, -, rfl⟩ := hv
    have hxl : xs.length = n * sz := hr0.1
    have hnle : n * sz ≤ c * sz := Nat.mul_le_mul_right _ hnc
    generalize hnew : (Builtin.zeroCells z.cells n').toList = new
    have hnl : new.length = n' * sz := by rw [← hnew, Array.length_toList, size_zeroCells, hc, List.size_toArray, hl]
    have hno : ∀ v, v ∈ new → v.oneCell' = true := by rw [← hnew]; exact zero_one hc hone n'
    have hkn : k * sz + new.length = n * sz := by rw [hnl, ← Nat.add_mul, hk]
    have h1 := run_storeCells_at C.P g (k * sz) E new 0 cur w hg (by omega) hno
    simp only [Nat.add_zero] at h1
    have hA : cutA (some ⟨g, 0, none⟩) c k sz = some ⟨g, k * sz, none⟩ := by
      unfold cutA offA
      rw [if_neg (by omega)]
      simp [add_at]
    rw [hA] at hx
    obtain ⟨n'', rfl⟩ : ∃ n'', n' = n'' + 1 := ⟨n' - 1, by omega⟩
    have hzv : (zeroValue E).run C.P w = .ok z w := by
      cases hq : C.P.info? E with
      | none => simp [hq] at hz
      | some inf =>
        simp only [hq, Option.bind_some] at hz
        simp [zeroValue, typeInfo, hq, hz]
    refine ⟨.tuple #[], w.setRow g (cur.toList.take (k * sz) ++ new ++ cur.toList.drop (k * sz + new.length)).toArray, _, ?_, turn_row hh hi rfl hg rfl ?_, h new⟩
    · simp [execOp, ho, resolve, invoke, builtin, hr.ev hx, Builtin.clear_, run_underlying hT, hzv, hnew, h1]
    · have hlen : (put xs (k * sz) new).length = n * sz := by simp only [put, List.length_append, List.length_take, List.length_drop]; omega
      refine ⟨hlen, .inr ⟨g, c, _, rfl, hb, setRow_heap w g cur _ E _ hg, hnc, hcm, ?_, ?_⟩⟩
      · simp only [List.size_toArray, List.length_append, List.length_take, List.length_drop, Array.length_toList]; omega
      · subst ht
        exact take_put (by omega) (by simp; omega)
theorem row_cap {i n c sz : Nat} {A : Option Addr} {E xs} (hi : m[i]? = some (.row (.slice A n c) E sz n xs)) : ∀ w, Holds C.base C.w0 m w → n ≤ c := fun w hw => by
  have h := hw.all _ (List.mem_of_getElem? hi)
  rcases h.2 with ⟨hv, hn⟩ | ⟨g, cap, cur, hv, _, _, hnc, _⟩
  · omega
  · simp only [Value.slice.injEq] at hv
    obtain ⟨_, _, rfl⟩ := hv
    exact hnc
theorem Holds.cutRow {base w0 w} {A : Option Addr} {n c k sz : Nat} {E xs ys} (hk : k ≤ n) (h0 : 0 < k) (hy : xs.take (k * sz) = ys) (h : Holds base w0 (.row (.slice A n c) E sz n xs :: m) w) : Holds base w0 (.row (.slice A k c) E sz k ys :: m) w := by
  subst hy
  have hr := h.all _ (List.mem_cons_self ..)
  obtain ⟨ha1, ha2⟩ := List.pairwise_cons.1 h.apart
  have hle : k * sz ≤ n * sz := Nat.mul_le_mul_right _ hk
  rcases hr.2 with ⟨hv, hn⟩ | ⟨g, cap, cur, hv, hb, hg, hnc, hcm, hcs, ht⟩
  · omega
  · simp only [Value.slice.injEq] at hv
    obtain ⟨rfl, -, rfl⟩ := hv
    refine ⟨h.below, h.le, fun e he => ?_, List.pairwise_cons.2 ⟨fun f hf b hb2 => ha1 f hf b hb2, ha2⟩, h.others⟩
    rcases List.mem_cons.1 he with rfl | he
    · refine ⟨?_, .inr ⟨g, c, cur, rfl, hb, hg, by omega, hcm, hcs, ?_⟩⟩
      · have := hr.1; rw [List.length_take]; omega
      · rw [← ht, List.take_take, Nat.min_eq_left hle]
    · exact h.all e (by simp [he])
theorem cutRowH {F : List Ent} {A : Option Addr} {n c k sz : Nat} {E xs ys} (hk : k ≤ n) (h0 : 0 < k) (hy : xs.take (k * sz) = ys) (hp : m.Perm (.row (.slice A n c) E sz n xs :: F)) : ∀ w, Holds C.base C.w0 m w → Holds C.base C.w0 (.row (.slice A k c) E sz k ys :: F) w :=
  fun _ h => Holds.cutRow hk h0 hy (h.perm hp)
theorem fr_indexAddrX {α : Type} {f : α → List Value} {sz : Nat} {xs : List α} {A : Option Addr} {S x y E n c k i} (H : Reads C m A (xs.flatMap f)) (hf : ∀ x, (f x).length = sz) (hl : 0 < xs.length) (ho : o.op = .indexAddr S x y) (hx : ev env x = some (.slice A n c)) (hy : ev env y = some (.int k i)) (hS : C.P.underlying S = some (.slice E)) (hs : (C.P.info? E).map (·.size) = some sz) (hp : Nat.blt 0 sz = true) (hi : 0 ≤ i ∧ i < n) : Free C o env m (.pointer (offA A (i.toNat * sz))) := by
  have key := fun hA => fr_indexAddr (C := C) (m := m) (o := o) ho hx hy hS hs hA hi
  unfold Free at key ⊢
  exact fun a w hr hw => key (H.some_ hf hp hl hw) a w hr hw
theorem segD {α : Type} {f : α → List Value} {sz : Nat} {xs : List α} {A : Option Addr} {i : Int} {r : α} (j : Nat) (H : Reads C m A (xs.flatMap f)) (hf : ∀ x, (f x).length = sz) (hp : Nat.blt 0 sz = true) (d : α) (hi : i = (j : Int)) (hj : j < xs.length) (he : xs.getD j d = r) : SegO C m (offA A (i.toNat * sz)) (f r) := by
  subst he; exact segJ j H hf hp d hi hj
end Go.Sx

/- Neighbours that are alike, taken out in place. -/
set_option linter.unusedVariables false
set_option linter.unusedSimpArgs false
namespace Go.W
open Go Go.Sx
theorem cpt_c (x y : VP) (l : List VP) : cpt (x :: y :: l) = if likeP x y = true then cpt (y :: l) else x :: cpt (y :: l) := by rw [cpt]
theorem cpt_1 (x : VP) : cpt [x] = [x] := rfl
theorem cpt_snoc2 (x y : VP) : ∀ (l : List VP), cpt (l ++ [x, y]) = if likeP x y = true then cpt (l ++ [x]) else cpt (l ++ [x]) ++ [y]
  | [] => by
    show cpt [x, y] = if likeP x y = true then cpt [x] else cpt [x] ++ [y]
    rw [cpt_c, cpt_1, cpt_1]
    split
    · next h => obtain rfl := vp_ext h; rfl
    · rfl
  | [a] => by
    have ih := cpt_snoc2 x y []
    simp only [List.nil_append] at ih
    show cpt (a :: x :: [y]) = if likeP x y = true then cpt (a :: x :: []) else cpt (a :: x :: []) ++ [y]
    rw [cpt_c a x [y], cpt_c a x [], ih]
    split <;> split <;> rfl
  | a :: b :: l => by
    have ih := cpt_snoc2 x y (b :: l)
    simp only [List.cons_append] at ih ⊢
    rw [cpt_c, cpt_c, ih]
    split <;> split <;> rfl
theorem cpt_take {l : List VP} {m : Nat} (h0 : 1 ≤ m) (h : m < l.length) : cpt (l.take (m + 1)) = if likeP (l.getD (m - 1) zP) (l.getD m zP) = true then cpt (l.take m) else cpt (l.take m) ++ [l.getD m zP] := by
  obtain ⟨m', rfl⟩ : ∃ m', m = m' + 1 := ⟨m - 1, by omega⟩
  rw [takeP h, takeP (show m' < l.length by omega), List.append_assoc, Nat.add_sub_cancel]
  exact cpt_snoc2 _ _ _
theorem cpt_le : ∀ (l : List VP), (cpt l).length ≤ l.length
  | [] => Nat.le_refl _
  | [x] => Nat.le_refl _
  | x :: y :: l => by
    have := cpt_le (y :: l)
    rw [cpt]; simp only [List.length_cons] at this ⊢
    split
    · omega
    · simp only [List.length_cons]; omega
def cst (l : List VP) (m : Nat) : List VP := cpt (l.take m) ++ l.drop (cpt (l.take m)).length
section
variable {l : List VP} {m : Nat}
theorem cptT_le (h : m ≤ l.length) : (cpt (l.take m)).length ≤ m := by have := cpt_le (l.take m); rw [List.length_take] at this; omega
theorem cst_len (h : m ≤ l.length) : (cst l m).length = l.length := by
  have := cptT_le h
  unfold cst; rw [List.length_append, List.length_drop]; omega
theorem cst_at {q : Nat} (hq : (cpt (l.take m)).length ≤ q) : (cst l m).getD q zP = l.getD q zP := by
  unfold cst
  simp only [List.getD]
  rw [List.getElem?_append_right hq, List.getElem?_drop, show (cpt (l.take m)).length + (q - (cpt (l.take m)).length) = q by omega]
theorem ccdrop {k j q : Nat} (hq : (cpt (l.take m)).length ≤ q ∧ q = k + j) : ((cst l m).drop k).getD j zP = l.getD q zP := by
  obtain ⟨h1, rfl⟩ := hq
  rw [← cst_at h1]
  simp only [List.getD]; rw [List.getElem?_drop]
theorem cst_same (h : cpt (l.take m) = l.take m) (hm : m ≤ l.length) : cst l m = l := by
  unfold cst; rw [h, List.length_take, Nat.min_eq_left hm, List.take_append_drop]
theorem cst_n (h0 : 1 ≤ m) (h : m < l.length) (hl : likeP (l.getD (m - 1) zP) (l.getD m zP) = true) : cst l m = cst l (m + 1) ∧ (cpt (l.take m)).length = (cpt (l.take (m + 1))).length := by
  unfold cst; rw [cpt_take h0 h, if_pos hl]; exact ⟨rfl, rfl⟩
theorem cst_y (h0 : 1 ≤ m) (h : m < l.length) (hl : likeP (l.getD (m - 1) zP) (l.getD m zP) = false) : (cst l m).set (cpt (l.take m)).length (l.getD m zP) = cst l (m + 1) ∧ (cpt (l.take (m + 1))).length = (cpt (l.take m)).length + 1 := by
  have h1 := cptT_le (l := l) (m := m) (by omega)
  have e : cpt (l.take (m + 1)) = cpt (l.take m) ++ [l.getD m zP] := by rw [cpt_take h0 h, if_neg (by rw [hl]; decide)]
  unfold cst
  rw [e, List.length_append, List.length_singleton]
  refine ⟨?_, rfl⟩
  rw [List.set_append_right _ _ (Nat.le_refl _), Nat.sub_self, List.drop_eq_getElem_cons (show (cpt (l.take m)).length < l.length by omega), List.set_cons_zero, List.append_assoc]; rfl
theorem cst_put {q : Nat} {v : List Value} {k : Nat} (h0 : 1 ≤ m) (h : m < l.length) (hl : likeP (l.getD (m - 1) zP) (l.getD m zP) = false) (hk : k = (cpt (l.take m)).length) (hq : q = k * 2) (hv : v = encP (l.getD m zP)) : put ((cst l m).flatMap encP) q v = (cst l (m + 1)).flatMap encP := by
  have h1 := cptT_le (l := l) (m := m) (by omega)
  subst hk hq hv
  rw [flat_put encP_len _ _ _ (by rw [cst_len (by omega)]; omega), (cst_y h0 h hl).1]
theorem cpt_step (h0 : 1 ≤ m) (h : m < l.length) (hc : cpt (l.take m) = l.take m) (hl : likeP (l.getD (m - 1) zP) (l.getD m zP) = false) : cpt (l.take (m + 1)) = l.take (m + 1) := by
  rw [cpt_take h0 h, if_neg (by rw [hl]; decide), hc, takeP h]
theorem cpt_one (h : 1 ≤ l.length) : cpt (l.take 1) = l.take 1 := by
  cases l with
  | nil => simp at h
  | cons x l => rfl
theorem cpt_short (h : l.length < 2) : cpt l = l := by
  match l, h with
  | [], _ => rfl
  | [x], _ => rfl
theorem cpt_pos (h : 1 ≤ l.length) : 1 ≤ (cpt l).length := by
  match l, h with
  | x :: l, _ =>
    obtain ⟨z, m, _, hc⟩ := cpt_head x l
    rw [hc]; simp
theorem like_sym (x y : VP) : likeP x y = likeP y x := by
  unfold likeP; exact decide_eq_decide.2 ⟨fun h => ⟨h.1.symm, h.2.symm⟩, fun h => ⟨h.1.symm, h.2.symm⟩⟩
theorem cst_cut {new : List Value} {k n : Nat} (hm : m = l.length) (hk : k = (cpt l).length) (hn : n = k * 2) : (put ((cst l m).flatMap encP) n new).take n = (cpt l).flatMap encP := by
  subst hm hk hn
  have e : l.take l.length = l := List.take_length
  have h1 : ((cpt l).flatMap encP).length = (cpt l).length * 2 := by rw [flat_len encP_len]
  unfold cst
  rw [e, List.flatMap_append, put, List.take_append_of_le_length (by rw [List.length_append, List.length_take, List.length_append, h1]; omega), List.take_append_of_le_length (by rw [List.length_take, List.length_append, h1]; omega), List.take_take, Nat.min_self, ← h1, List.take_left]
end
end Go.W

/- Lists laid one behind the other. -/
set_option linter.unusedVariables false
set_option linter.unusedSimpArgs false
namespace Go.W
open Go Go.Sx
def catX {α : Type} (K : List (VX α)) (k : Nat) : List α := (K.take k).flatMap (·.xs)
section
variable {α : Type} {K : List (VX α)} {k : Nat}
theorem catX_0 : catX K 0 = [] := by simp [catX]
theorem catX_s (h : k < K.length) : catX K (k + 1) = catX K k ++ (K.getD k zX).xs := by
  unfold catX
  rw [List.take_succ_eq_append_getElem h, List.flatMap_append]
  simp [List.getD, h]
theorem catX_sl (h : k < K.length) : (catX K (k + 1)).length = (catX K k).length + (K.getD k zX).xs.length := by rw [catX_s h, List.length_append]
theorem catX_mono (h : k ≤ K.length) : (catX K k).length ≤ (catX K K.length).length := by
  obtain ⟨j, hj⟩ : ∃ j, K.length = k + j := ⟨K.length - k, by omega⟩
  have key : ∀ j, k + j ≤ K.length → (catX K k).length ≤ (catX K (k + j)).length := by
    intro j
    induction j with
    | zero => intro _; exact Nat.le_refl _
    | succ j ih =>
      intro h2
      have := ih (by omega)
      rw [show k + (j + 1) = k + j + 1 by omega, catX_sl (by omega)]; omega
  have := key j (by omega)
  rwa [← hj] at this
theorem catX_2 {a b : VX α} : catX [a, b] [a, b].length = a.xs ++ b.xs := by simp [catX]
end
end Go.W

/- Merged totals: what the program's loop sees. -/
set_option linter.unusedVariables false
set_option linter.unusedSimpArgs false
namespace Go.W
open Go Go.Sx Go.RowKit
theorem reads2 {α : Type} {w : World} {f : α → List Value} {a b : VX α} (h0 : Rd w a.A (a.xs.flatMap f)) (h1 : Rd w b.A (b.xs.flatMap f)) : ∀ k, k < [a, b].length → Rd w ([a, b].getD k zX).A (([a, b].getD k zX).xs.flatMap f) := fun k hk => by
  match k, hk with
  | 0, _ => exact h0
  | 1, _ => exact h1
theorem nil2 {α : Type} {a b : VX α} (h0 : a.A = none → a.xs.length = 0 ∧ a.c = 0) (h1 : b.A = none → b.xs.length = 0 ∧ b.c = 0) : ∀ k, k < [a, b].length → ([a, b].getD k zX).A = none → ([a, b].getD k zX).xs.length = 0 ∧ ([a, b].getD k zX).c = 0 := fun k hk e => by
  match k, hk with
  | 0, _ => exact h0 e
  | 1, _ => exact h1 e
theorem none_len {base : Nat} {w : World} {A : Option Addr} {l : List VP} (h : RdB base w A (l.flatMap encP)) (e : A = none) : l.length = 0 := by
  cases l with
  | nil => rfl
  | cons x t =>
    obtain ⟨ad, h1, _⟩ := h 0 (.int .i64 x.a) rfl
    rw [e] at h1; cases h1
theorem row_addr {C : Cx} {m : List Ent} {i n c sz : Nat} {A : Option Addr} {E xs} (hi : m[i]? = some (Ent.row (.slice A n c) E sz n xs)) (hn : 0 < n) : ∀ w, Holds C.base C.w0 m w → ∃ a, A = some a := fun w hw => Option.isSome_iff_exists.1 ((row_some hi w hw).2.2.2 hn)
/-- The code that the program's loop has come to. -/
def codeK (l : List VP) (k : Nat) : Int := if (List.range (k - 1)).all (fun i => decide (¬ (l.getD (i + 1) zP).b < (l.getD i zP).b)) = true then 0 else 4
theorem codeK_1 (l : List VP) : codeK l 1 = 0 := rfl
theorem codeK_s {l : List VP} {k : Nat} (hk : 1 ≤ k) : codeK l (k + 1) = if (l.getD k zP).b < (l.getD (k - 1) zP).b then 4 else codeK l k := by
  obtain ⟨k', rfl⟩ : ∃ k', k = k' + 1 := ⟨k - 1, by omega⟩
  unfold codeK
  rw [Nat.add_sub_cancel, Nat.add_sub_cancel, List.range_succ, List.all_append, List.all_cons, List.all_nil, Bool.and_true]
  by_cases h : (l.getD (k' + 1) zP).b < (l.getD k' zP).b
  · rw [if_pos h, decide_eq_false (fun h2 => h2 h), Bool.and_false, if_neg Bool.false_ne_true]
  · rw [if_neg h, decide_eq_true h, Bool.and_true]
theorem codeK_y {l : List VP} {k : Nat} (hk : 1 ≤ k) (h : (l.getD k zP).b < (l.getD (k - 1) zP).b) : codeK l (k + 1) = 4 := by rw [codeK_s hk, if_pos h]
theorem codeK_n {l : List VP} {k : Nat} (hk : 1 ≤ k) (h : ¬ (l.getD k zP).b < (l.getD (k - 1) zP).b) : codeK l (k + 1) = codeK l k := by rw [codeK_s hk, if_neg h]
theorem codeK_end {l : List VP} {k : Nat} (hk : l.length ≤ k) (h1 : k = 1 ∨ k = l.length) : codeK l k = if upB l = true then 0 else 4 := by
  unfold codeK upB
  rcases h1 with rfl | rfl
  · have : l.length - 1 = 0 := by omega
    rw [this]
  · rfl
theorem codeK_bd (l : List VP) (k : Nat) : codeK l k = 0 ∨ codeK l k = 4 := by unfold codeK; split <;> simp
theorem mer_z : merV [] [] = ([], 0) := by
  have h1 : mg [] [] = ([] : List VP) := by rw [mg]
  have h2 : cf [] [] = false := by rw [cf]
  have := mer_0 (s := []) (t := []) (by decide) h2 (by rw [h1]; rfl) (by rw [h1]; decide)
  rw [this, h1]
theorem mer_le {s t : List VP} : (merV s t).1.length ≤ 60 := by
  unfold merV
  split
  · simp
  · split
    · simp
    · split
      · simp
      · split
        · simp
        · show (mg s t).length ≤ 60; omega
end Go.W

/- A rest is at most the number. -/
namespace Go.W
open Go Go.Sx
theorem mod_le {z n : Int} (hz : 0 ≤ z) (hn : 0 < n) : z % n ≤ z := by
  rcases Int.lt_or_le z n with h | h
  · rw [Int.emod_eq_of_lt hz h]; exact Int.le_refl _
  · have := Int.emod_lt_of_pos z hn; omega
end Go.W

/- Journals that are drawn, in plain numbers. -/
set_option linter.unusedVariables false
set_option linter.unusedSimpArgs false
namespace Go.W
open Go Go.Sx
/-- A device as it is drawn. -/
def DrDev (d : VDev) : Prop := OkDev d ∧ validDev d = true ∧ d.stack.length ≤ 4 ∧ 0 ≤ d.tickets ∧ d.tickets ≤ 19
/-- An act as it is drawn for a device with this stack. -/
def OkJ (s : List Int) (a : VAct) : Prop := ((a.kind = 1 ∨ a.kind = 2) ∧ 0 ≤ a.n ∧ a.n ≤ 19) ∨ (a.kind = 3 ∧ -1 ≤ a.n ∧ a.n ≤ 28 ∧ a.n ≤ size s - 1) ∨ ((a.kind = 4 ∨ a.kind = 5) ∧ a.n = 0)
def DrActs (s : List Int) (l : List VAct) : Prop := l.length ≤ 9 ∧ ∀ i, i < l.length → OkJ s (l.getD i zA)
theorem OkJ.valid {s : List Int} {a : VAct} (h : OkJ s a) : validAct a = true := by
  unfold validAct; rw [decide_eq_true_iff]; unfold OkJ at h; omega
theorem OkJ.ok {s : List Int} {a : VAct} (h : OkJ s a) : OkAct a := by
  unfold OkAct I64; unfold OkJ at h; omega
theorem pulse_le {d : VDev} {n st : Int} (hO : DevOk d) (hn : 0 ≤ n) : 0 ≤ (pulseV d n st).2 ∧ (pulseV d n st).2 ≤ n ∧ (pulseV d n st).1.tickets = d.tickets := by
  have hu := until_ge hO st
  unfold pulseV
  split
  · exact ⟨hn, Int.le_refl _, rfl⟩
  · split
    · rename_i h1 h2
      refine ⟨?_, ?_, rfl⟩
      · show 0 ≤ n - untilV d st; omega
      · show n - untilV d st ≤ n; omega
    · exact ⟨Int.le_refl _, hn, rfl⟩
theorem do_j {d : VDev} {a : VAct} {s : List Int} (hk : OkDev d) (hv : validDev d = true) (hs : d.stack = s) (ht : d.tickets ≤ 1000) (h : OkJ s a) :
    (doV d a).2.2 = 0 ∧ (0 ≤ (doV d a).2.1 ∧ (doV d a).2.1 ≤ 19) ∧ (a.kind ≠ 3 → (doV d a).2.1 ≤ a.n) ∧ (2 < a.kind → (doV d a).2.1 = 0) ∧ (doV d a).1.tickets ≤ d.tickets + 1 := by
  have hO := devOk hk.2.2.1 hv
  rcases h with ⟨h1 | h1, h2⟩ | ⟨h1, h2⟩ | ⟨h1 | h1, h2⟩
  · have := pulse_le (st := 1) hO h2.1
    rw [do_1 h1]; exact ⟨rfl, ⟨this.1, Int.le_trans this.2.1 h2.2⟩, fun _ => this.2.1, fun h => by omega, by rw [this.2.2]; omega⟩
  · have := pulse_le (st := -1) hO h2.1
    rw [do_2 h1]; exact ⟨rfl, ⟨this.1, Int.le_trans this.2.1 h2.2⟩, fun _ => this.2.1, fun h => by omega, by rw [this.2.2]; omega⟩
  · rw [do_3 h1 (by rw [hs]; omega)]; exact ⟨rfl, ⟨by show (0 : Int) ≤ 0; omega, by show (0 : Int) ≤ 19; omega⟩, fun h => absurd h1 h, fun _ => rfl, by show d.tickets ≤ d.tickets + 1; omega⟩
  · rw [do_4 h1]; exact ⟨rfl, ⟨by show (0 : Int) ≤ 0; omega, by show (0 : Int) ≤ 19; omega⟩, fun _ => by show (0 : Int) ≤ a.n; omega, fun _ => rfl, by show d.tickets ≤ d.tickets + 1; omega⟩
  · rw [do_5 h1 (by omega)]; exact ⟨rfl, ⟨by show (0 : Int) ≤ 0; omega, by show (0 : Int) ≤ 19; omega⟩, fun _ => by show (0 : Int) ≤ a.n; omega, fun _ => rfl, by show d.tickets + 1 ≤ d.tickets + 1; omega⟩
theorem run_j {d : VDev} {l : List VAct} (hk : OkDev d) (hv : validDev d = true) (ht : d.tickets ≤ 500) (hn : l.length ≤ 60) (h : ∀ i, i < l.length → OkJ d.stack (l.getD i zA)) : ∀ k, k ≤ l.length →
    runC d l k = 0 ∧ (0 ≤ lostD d l k ∧ lostD d l k ≤ 19 * k) ∧ (runD d l k).tickets ≤ d.tickets + k
  | 0, _ => ⟨rfl, by simp [lostD], by simp [runD]⟩
  | k + 1, hkl => by
    obtain ⟨h1, h2, h3⟩ := run_j hk hv ht hn h k (by omega)
    have h4 := run_ok hk hv (fun i hi => (h i hi).valid) k (by omega)
    have h5 := do_j h4.1 h4.2 (runD_stack d l k) (by omega) (h k (by omega))
    refine ⟨by rw [rc_go h1]; exact h5.1, by rw [lostD]; omega, ?_⟩
    rw [runD]; have := h5.2.2.2.2; omega
/-- A run of acts that can be done. -/
structure RunOk (d : VDev) (l : List VAct) : Prop where
  rv : runV d l = (runD d l l.length, notesL d l l.length, ticsL d l l.length, lostD d l l.length, 0)
  code : ∀ k, k ≤ l.length → runC d l k = 0
theorem run_of {d : VDev} {l : List VAct} (hv : validDev d = true) (hn : l.length ≤ 60) (ha : ∀ i, i < l.length → validAct (l.getD i zA) = true) (hc : ∀ k, k ≤ l.length → runC d l k = 0) (hl : lostD d l l.length ≤ 1000000000000) : RunOk d l := by
  have e : ¬ askV d l ≠ 0 := by
    rw [ask_on hv, ← af_ok (l := l) (any_bad_f (k := l.length) (Nat.lt_irrefl _) ha) (by omega)]; decide
  exact ⟨rv_ok (k := l.length) e rfl (hc _ (Nat.le_refl _)) (by omega), hc⟩
theorem run_drawn {d : VDev} {l : List VAct} (h : DrDev d) (hl : DrActs d.stack l) : RunOk d l := by
  obtain ⟨hk, hv, _, ht⟩ := h
  have hn := hl.1
  have hj := run_j hk hv (by omega) (by omega) hl.2
  refine run_of hv (by omega) (fun i hi => (hl.2 i hi).valid) (fun k hkl => (hj k hkl).1) ?_
  have := (hj l.length (Nat.le_refl _)).2.1; omega
/-- What the law asks of each note. -/
theorem note_ok {d : VDev} {l : List VAct} (h : DrDev d) (hl : DrActs d.stack l) {i : Nat} (hi : i < l.length) :
    ((runV d l).2.1.getD i zN).act = l.getD i zA ∧ 0 ≤ ((runV d l).2.1.getD i zN).lost ∧ ((runV d l).2.1.getD i zN).lost ≤ 19 ∧ ((l.getD i zA).kind ≠ 3 → ((runV d l).2.1.getD i zN).lost ≤ (l.getD i zA).n) ∧ (2 < (l.getD i zA).kind → ((runV d l).2.1.getD i zN).lost = 0) := by
  have hR := run_drawn h hl
  obtain ⟨hk, hv, _, ht⟩ := h
  have hn := hl.1
  have hj := (run_j hk hv (by omega) (by omega) hl.2 i (by omega)).2.2
  have h4 := run_ok hk hv (fun i hi => (hl.2 i hi).valid) i (by omega)
  have h5 := do_j h4.1 h4.2 (runD_stack d l i) (by omega) (hl.2 i hi)
  rw [hR.rv]
  show ((notesL d l l.length).getD i zN).act = _ ∧ 0 ≤ ((notesL d l l.length).getD i zN).lost ∧ ((notesL d l l.length).getD i zN).lost ≤ 19 ∧ (_ → ((notesL d l l.length).getD i zN).lost ≤ _) ∧ (_ → ((notesL d l l.length).getD i zN).lost = 0)
  rw [notesL_at d l _ i hi]
  exact ⟨rfl, h5.2.1.1, h5.2.1.2, h5.2.2.1, h5.2.2.2.1⟩
theorem notes_len {d : VDev} {l : List VAct} (hR : RunOk d l) : (runV d l).2.1.length = l.length := by rw [hR.rv]; exact notesL_len d l _
/-- A list of notes of which the first are those of a run. -/
theorem nowN_run {d : VDev} {l : List VAct} {ns : List VNote} : ∀ {k : Nat}, (∀ i, i < k → (ns.getD i zN).act = l.getD i zA) → nowN d ns k = runD d l k
  | 0, _ => rfl
  | k + 1, h => by rw [nowN, runD, nowN_run (fun i hi => h i (by omega)), h k (by omega)]
theorem badN_run {d : VDev} {l : List VAct} {ns : List VNote} {k : Nat} (hv : validAct (l.getD k zA) = true) (hc : (doV (runD d l k) (l.getD k zA)).2.2 = 0) (h : ∀ i, i < k → (ns.getD i zN).act = l.getD i zA) (hk : ns.getD k zN = ⟨l.getD k zA, (doV (runD d l k) (l.getD k zA)).1.shows, (doV (runD d l k) (l.getD k zA)).2.1⟩) : badN d ns k = false := by
  refine badN_f ?_
  rw [nowN_run h, hk]
  rintro (h1 | h1 | h1 | h1)
  · rw [hv] at h1; cases h1
  · exact h1 hc
  · exact h1 rfl
  · exact h1 rfl
theorem doC0 {d : VDev} {l : List VAct} (hR : RunOk d l) {k : Nat} (hk : k < l.length) : (doV (runD d l k) (l.getD k zA)).2.2 = 0 := by
  have := hR.code (k + 1) (by omega)
  rwa [rc_go (hR.code k (by omega))] at this
theorem fw_run {d : VDev} {l : List VAct} (hv : validDev d = true) (hn : l.length ≤ 60) (ha : ∀ i, i < l.length → validAct (l.getD i zA) = true) (hR : RunOk d l) : firstWrong d (runV d l).2.1 = (0, 6) := by
  have hlen := notes_len hR
  rw [fw_on hv (by omega), firstB_none (k := l.length) (by omega) ?_]; rfl
  intro i hi
  have hc := doC0 hR hi
  rw [hR.rv]
  exact badN_run (ha i hi) hc (fun j hj => by show ((notesL d l l.length).getD j zN).act = _; rw [notesL_at d l _ j (by omega)]) (notesL_at d l _ i hi)
/-- A note that is changed. -/
def bent (ns : List VNote) (k : Nat) : List VNote := ns.set k ⟨(ns.getD k zN).act, (ns.getD k zN).shows, (ns.getD k zN).lost + 1⟩
theorem bent_len (ns : List VNote) (k : Nat) : (bent ns k).length = ns.length := by simp [bent]
theorem bent_at {ns : List VNote} {k : Nat} (hk : k < ns.length) (i : Nat) : (bent ns k).getD i zN = if i = k then ⟨(ns.getD k zN).act, (ns.getD k zN).shows, (ns.getD k zN).lost + 1⟩ else ns.getD i zN := by
  unfold bent
  simp only [List.getD, List.getElem?_set]
  by_cases h : k = i
  · subst h; simp [hk]
  · simp [h, Ne.symm h]
theorem fw_bent {d : VDev} {l : List VAct} (hv : validDev d = true) (hn : l.length ≤ 60) (ha : ∀ i, i < l.length → validAct (l.getD i zA) = true) (hR : RunOk d l) {k : Nat} (hk : k < l.length) : firstWrong d (bent (runV d l).2.1 k) = ((k : Int), 0) := by
  have hlen := notes_len hR
  have hat := bent_at (ns := (runV d l).2.1) (k := k) (by omega)
  have hb := bent_len (runV d l).2.1 k
  have hnt : ∀ i, i < l.length → (runV d l).2.1.getD i zN = ⟨l.getD i zA, (doV (runD d l i) (l.getD i zA)).1.shows, (doV (runD d l i) (l.getD i zA)).2.1⟩ := fun i hi => by rw [hR.rv]; exact notesL_at d l _ i hi
  have hact : ∀ i, i < l.length → ((bent (runV d l).2.1 k).getD i zN).act = l.getD i zA := fun i hi => by
    rw [hat i]; split
    · rename_i h; subst h; show ((runV d l).2.1.getD i zN).act = _; rw [hnt i hi]
    · rw [hnt i hi]
  rw [fw_on hv (by omega), firstB_hit (k := k) (by omega) ?_ ?_]; rfl
  · intro i hi
    exact badN_run (ha i (by omega)) (doC0 hR (by omega)) (fun j hj => hact j (by omega)) (by rw [hat i, if_neg (by omega)]; exact hnt i (by omega))
  · refine badN_t (.inr (.inr (.inl ?_)))
    rw [nowN_run (fun j hj => hact j (by omega)), hact k hk, hat k, if_pos rfl, hnt k hk]
    show (doV (runD d l k) (l.getD k zA)).2.1 ≠ (doV (runD d l k) (l.getD k zA)).2.1 + 1
    omega
end Go.W
namespace Go.W
open Go Go.Sx
/-! batches -/
theorem getD_l {α : Type} {l t : List α} {d : α} {i : Nat} (h : i < l.length) : (l ++ t).getD i d = l.getD i d := by
  simp only [List.getD]; rw [List.getElem?_append_left h]
theorem getD_r {α : Type} {l t : List α} {d : α} {i n : Nat} (h : l.length = n) : (l ++ t).getD (n + i) d = t.getD i d := by
  subst h; simp only [List.getD]; rw [List.getElem?_append_right (by omega)]; simp
theorem pre_D {d : VDev} {l t : List VAct} : ∀ {k : Nat}, k ≤ l.length → runD d (l ++ t) k = runD d l k
  | 0, _ => rfl
  | k + 1, h => by rw [runD, runD, pre_D (by omega), getD_l (by omega)]
theorem pre_L {d : VDev} {l t : List VAct} : ∀ {k : Nat}, k ≤ l.length → lostD d (l ++ t) k = lostD d l k
  | 0, _ => rfl
  | k + 1, h => by rw [lostD, lostD, pre_D (by omega), pre_L (by omega), getD_l (by omega)]
theorem pre_C {d : VDev} {l t : List VAct} : ∀ {k : Nat}, k ≤ l.length → runC d (l ++ t) k = runC d l k
  | 0, _ => rfl
  | k + 1, h => by rw [runC, runC, pre_D (by omega), pre_C (by omega), getD_l (by omega)]
theorem pre_T {d : VDev} {l t : List VAct} : ∀ {k : Nat}, k ≤ l.length → ticsL d (l ++ t) k = ticsL d l k
  | 0, _ => rfl
  | k + 1, h => by rw [ticsL, ticsL, pre_D (by omega), pre_T (by omega), getD_l (by omega)]
/-- A ticket of a batch. -/
def batchT (s : List Int) (n : Int) (i : Nat) : VTic := ⟨(i : Int) + 1, addD s zDig n, check ((i : Int) + 1) (addD s zDig n).l⟩
theorem batch_run {s : List Int} {n : Int} (hs : Stk s) (hn : 1 ≤ n ∧ n ≤ prod s - 1) : ∀ k : Nat, k ≤ 1000 →
    runD ⟨s, zDig, -1, false, 0⟩ (batchL n k) (1 + 4 * k) = ⟨s, zDig, if k = 0 then -1 else n, false, k⟩ ∧ lostD ⟨s, zDig, -1, false, 0⟩ (batchL n k) (1 + 4 * k) = 0 ∧ runC ⟨s, zDig, -1, false, 0⟩ (batchL n k) (1 + 4 * k) = 0
      ∧ ticsL ⟨s, zDig, -1, false, 0⟩ (batchL n k) (1 + 4 * k) = (List.range k).map (batchT s n)
  | 0, _ => by
    have e := do_4 (d := ⟨s, zDig, -1, false, 0⟩) (a := ⟨4, 0⟩) rfl
    refine ⟨?_, ?_, ?_, ?_⟩
    · show (doV ⟨s, zDig, -1, false, 0⟩ ⟨4, 0⟩).1 = _; rw [e]; simp
    · show 0 + (doV ⟨s, zDig, -1, false, 0⟩ ⟨4, 0⟩).2.1 = 0; rw [e]; rfl
    · rw [show 1 + 4 * 0 = 0 + 1 from rfl, rc_go rfl]; show (doV ⟨s, zDig, -1, false, 0⟩ ⟨4, 0⟩).2.2 = 0; rw [e]
    · rw [show 1 + 4 * 0 = 0 + 1 from rfl, tl_n (by show ¬ (4 : Int) = 5; decide)]; rfl
  | k + 1, hk => by
    obtain ⟨h1, h2, h3, h4⟩ := batch_run hs hn k (by omega)
    have hlen := batchL_len n k
    generalize hd0 : (⟨s, zDig, -1, false, 0⟩ : VDev) = d0 at h1 h2 h3 h4 ⊢
    have hz : size s = prod s := hs.size_
    have hv0 : val s zDig.l = 0 := val_zero hs
    have q0 : (batchL n k ++ [(⟨3, n⟩ : VAct), ⟨1, n⟩, ⟨5, 0⟩, ⟨4, 0⟩]).getD (1 + 4 * k) zA = ⟨3, n⟩ := getD_r (i := 0) hlen
    have q1 : (batchL n k ++ [(⟨3, n⟩ : VAct), ⟨1, n⟩, ⟨5, 0⟩, ⟨4, 0⟩]).getD (1 + 4 * k + 1) zA = ⟨1, n⟩ := getD_r (i := 1) hlen
    have q2 : (batchL n k ++ [(⟨3, n⟩ : VAct), ⟨1, n⟩, ⟨5, 0⟩, ⟨4, 0⟩]).getD (1 + 4 * k + 2) zA = ⟨5, 0⟩ := getD_r (i := 2) hlen
    have q3 : (batchL n k ++ [(⟨3, n⟩ : VAct), ⟨1, n⟩, ⟨5, 0⟩, ⟨4, 0⟩]).getD (1 + 4 * k + 3) zA = ⟨4, 0⟩ := getD_r (i := 3) hlen
    -- what each act does
    have e0 : doV ⟨s, zDig, if k = 0 then -1 else n, false, k⟩ ⟨3, n⟩ = (⟨s, zDig, n, false, k⟩, 0, 0) := by
      rw [do_3 rfl (by show ¬ (n ≠ -1 ∧ ¬ (0 ≤ n ∧ n ≤ size s - 1)); omega)]
      have : decide (n = VDev.v ⟨s, zDig, if k = 0 then -1 else n, false, k⟩) = false := by rw [decide_eq_false_iff_not]; show ¬ n = val s zDig.l; omega
      show ((⟨s, zDig, n, decide (n = VDev.v ⟨s, zDig, if k = 0 then -1 else n, false, k⟩), k⟩ : VDev), (0 : Int), (0 : Int)) = _
      rw [this]
    have hu : untilV ⟨s, zDig, n, false, k⟩ 1 = n := by
      unfold untilV
      show until1 (1 * (n - val s zDig.l)) (prod s) = n
      rw [hv0, Int.sub_zero, Int.one_mul, until_big (by omega) (by omega) (by omega)]
    have e1 : doV ⟨s, zDig, n, false, k⟩ ⟨1, n⟩ = (⟨s, addD s zDig n, n, true, k⟩, 0, 0) := by
      rw [do_1 rfl]
      show ((pulseV ⟨s, zDig, n, false, k⟩ n 1).1, (pulseV ⟨s, zDig, n, false, k⟩ n 1).2, 0) = _
      rw [pv_hit rfl ⟨by show n ≠ -1; omega, by rw [hu]; exact Int.le_refl _⟩, hu]
      show ((⟨s, addD s zDig (1 * n), n, true, k⟩ : VDev), n - n, (0 : Int)) = _
      rw [Int.one_mul, Int.sub_self]
    have e2 : doV ⟨s, addD s zDig n, n, true, k⟩ ⟨5, 0⟩ = (⟨s, addD s zDig n, n, true, (k : Int) + 1⟩, 0, 0) := do_5 rfl (by show ¬ (k : Int) = 1000000; omega)
    have e3 : doV ⟨s, addD s zDig n, n, true, (k : Int) + 1⟩ ⟨4, 0⟩ = (⟨s, zDig, n, false, (k : Int) + 1⟩, 0, 0) := by
      rw [do_4 rfl]
      show ((⟨s, zDig, n, decide (n = 0), (k : Int) + 1⟩ : VDev), (0 : Int), (0 : Int)) = _
      rw [show decide (n = 0) = false from by rw [decide_eq_false_iff_not]; omega]
    rw [batchL]
    generalize hL : batchL n k ++ [(⟨3, n⟩ : VAct), ⟨1, n⟩, ⟨5, 0⟩, ⟨4, 0⟩] = L at q0 q1 q2 q3 ⊢
    have r0 : runD d0 L (1 + 4 * k) = ⟨s, zDig, if k = 0 then -1 else n, false, k⟩ := by rw [← hL, pre_D (by omega), h1]
    have r1 : runD d0 L (1 + 4 * k + 1) = ⟨s, zDig, n, false, k⟩ := by rw [runD, r0, q0, e0]
    have r2 : runD d0 L (1 + 4 * k + 2) = ⟨s, addD s zDig n, n, true, k⟩ := by rw [show 1 + 4 * k + 2 = (1 + 4 * k + 1) + 1 from rfl, runD, r1, q1, e1]
    have r3 : runD d0 L (1 + 4 * k + 3) = ⟨s, addD s zDig n, n, true, (k : Int) + 1⟩ := by rw [show 1 + 4 * k + 3 = (1 + 4 * k + 2) + 1 from rfl, runD, r2, q2, e2]
    have r4 : runD d0 L (1 + 4 * k + 4) = ⟨s, zDig, n, false, (k : Int) + 1⟩ := by rw [show 1 + 4 * k + 4 = (1 + 4 * k + 3) + 1 from rfl, runD, r3, q3, e3]
    have l0 : lostD d0 L (1 + 4 * k) = 0 := by rw [← hL, pre_L (by omega), h2]
    have c0 : runC d0 L (1 + 4 * k) = 0 := by rw [← hL, pre_C (by omega), h3]
    have t0 : ticsL d0 L (1 + 4 * k) = (List.range k).map (batchT s n) := by rw [← hL, pre_T (by omega), h4]
    have c1 : runC d0 L (1 + 4 * k + 1) = 0 := by rw [rc_go c0, r0, q0, e0]
    have c2 : runC d0 L (1 + 4 * k + 2) = 0 := by rw [show 1 + 4 * k + 2 = (1 + 4 * k + 1) + 1 from rfl, rc_go c1, r1, q1, e1]
    have c3 : runC d0 L (1 + 4 * k + 3) = 0 := by rw [show 1 + 4 * k + 3 = (1 + 4 * k + 2) + 1 from rfl, rc_go c2, r2, q2, e2]
    have c4 : runC d0 L (1 + 4 * k + 4) = 0 := by rw [show 1 + 4 * k + 4 = (1 + 4 * k + 3) + 1 from rfl, rc_go c3, r3, q3, e3]
    have l1 : lostD d0 L (1 + 4 * k + 1) = 0 := by rw [lostD, l0, r0, q0, e0]; rfl
    have l2 : lostD d0 L (1 + 4 * k + 2) = 0 := by rw [show 1 + 4 * k + 2 = (1 + 4 * k + 1) + 1 from rfl, lostD, l1, r1, q1, e1]; rfl
    have l3 : lostD d0 L (1 + 4 * k + 3) = 0 := by rw [show 1 + 4 * k + 3 = (1 + 4 * k + 2) + 1 from rfl, lostD, l2, r2, q2, e2]; rfl
    have l4 : lostD d0 L (1 + 4 * k + 4) = 0 := by rw [show 1 + 4 * k + 4 = (1 + 4 * k + 3) + 1 from rfl, lostD, l3, r3, q3, e3]; rfl
    have t1 : ticsL d0 L (1 + 4 * k + 1) = (List.range k).map (batchT s n) := by rw [tl_n (by rw [q0]; show ¬ (3 : Int) = 5; decide), t0]
    have t2 : ticsL d0 L (1 + 4 * k + 2) = (List.range k).map (batchT s n) := by rw [show 1 + 4 * k + 2 = (1 + 4 * k + 1) + 1 from rfl, tl_n (by rw [q1]; show ¬ (1 : Int) = 5; decide), t1]
    have t3 : ticsL d0 L (1 + 4 * k + 3) = (List.range (k + 1)).map (batchT s n) := by
      rw [show 1 + 4 * k + 3 = (1 + 4 * k + 2) + 1 from rfl, tl_5 (by rw [q2]), t2, r2, q2, e2, List.range_succ, List.map_append]; rfl
    have t4 : ticsL d0 L (1 + 4 * k + 4) = (List.range (k + 1)).map (batchT s n) := by rw [show 1 + 4 * k + 4 = (1 + 4 * k + 3) + 1 from rfl, tl_n (by rw [q3]; decide), t3]
    rw [show 1 + 4 * (k + 1) = 1 + 4 * k + 4 by omega]
    refine ⟨?_, l4, c4, t4⟩
    rw [r4, if_neg (by omega)]; push_cast; rfl
end Go.W
namespace Go.W
open Go Go.Sx
theorem batch_valid {n : Int} (hn : 1 ≤ n ∧ n ≤ 1000000000000) : ∀ (k i : Nat), validAct ((batchL n k).getD i zA) = true ∨ (batchL n k).length ≤ i
  | 0, i => by
    match i with
    | 0 => exact .inl (by show validAct ⟨4, 0⟩ = true; decide)
    | i + 1 => exact .inr (by rw [batchL_len]; omega)
  | k + 1, i => by
    have hlen := batchL_len n k
    rcases Nat.lt_or_ge i (1 + 4 * k) with h | h
    · rw [batchL, getD_l (by omega)]
      rcases batch_valid hn k i with h1 | h1
      · exact .inl h1
      · omega
    · rcases Nat.lt_or_ge i (1 + 4 * k + 4) with h2 | h2
      · refine .inl ?_
        obtain ⟨j, rfl⟩ : ∃ j, i = 1 + 4 * k + j := ⟨i - (1 + 4 * k), by omega⟩
        rw [batchL, getD_r hlen]
        have v3 : validAct ⟨3, n⟩ = true := by unfold validAct; rw [decide_eq_true_iff]; dsimp only; omega
        have v1 : validAct ⟨1, n⟩ = true := by unfold validAct; rw [decide_eq_true_iff]; dsimp only; omega
        match j, (show j < 4 by omega) with
        | 0, _ => exact v3
        | 1, _ => exact v1
        | 2, _ => show validAct ⟨5, 0⟩ = true; decide
        | 3, _ => show validAct ⟨4, 0⟩ = true; decide
      · exact .inr (by rw [batchL_len]; omega)
theorem batch_ok {s : List Int} {n : Int} (hvs : validStack s = true) (hn : 1 ≤ n ∧ n ≤ size s - 1) {k : Nat} (hk : k ≤ 10) :
    validDev ⟨s, zDig, -1, false, 0⟩ = true → RunOk ⟨s, zDig, -1, false, 0⟩ (batchL n k) ∧ (runV ⟨s, zDig, -1, false, 0⟩ (batchL n k)).1 = ⟨s, zDig, if k = 0 then -1 else n, false, k⟩ ∧ (runV ⟨s, zDig, -1, false, 0⟩ (batchL n k)).2.2.1 = (List.range k).map (batchT s n) ∧ (runV ⟨s, zDig, -1, false, 0⟩ (batchL n k)).2.2.2.1 = 0 ∧ (runV ⟨s, zDig, -1, false, 0⟩ (batchL n k)).2.2.2.2 = 0 := by
  intro hv
  have hs := Go.W.stk hvs
  have hz := hs.size_
  have hle := hs.le
  obtain ⟨h1, h2, h3, h4⟩ := batch_run hs (by rw [← hz]; exact hn) k (by omega)
  have hlen := batchL_len n k
  have hR : RunOk ⟨s, zDig, -1, false, 0⟩ (batchL n k) := by
    refine run_of hv (by omega) (fun i hi => ?_) (fun j hj => ?_) (by rw [hlen, h2]; omega)
    · rcases batch_valid (n := n) (by omega) k i with h | h
      · exact h
      · omega
    · rw [hlen] at hj
      by_cases h5 : runC ⟨s, zDig, -1, false, 0⟩ (batchL n k) j = 0
      · exact h5
      · have := rc_stay h5 (1 + 4 * k - j)
        rw [show j + (1 + 4 * k - j) = 1 + 4 * k by omega, h3] at this
        exact this.symm
  refine ⟨hR, ?_, ?_, ?_, ?_⟩
  · rw [hR.rv]; show runD _ _ (batchL n k).length = _; rw [hlen, h1]
  · rw [hR.rv]; show ticsL _ _ (batchL n k).length = _; rw [hlen, h4]
  · rw [hR.rv]; show lostD _ _ (batchL n k).length = _; rw [hlen, h2]
  · rw [hR.rv]
theorem newdev_ok {s : List Int} (hu : Nums 255 s) (hvs : validStack s = true) : OkDev ⟨s, zDig, -1, false, 0⟩ ∧ validDev ⟨s, zDig, -1, false, 0⟩ = true := by
  have hs := Go.W.stk hvs
  have hl8 := hs.len8
  refine ⟨⟨show s.length ≤ maxLen by unfold maxLen; omega, hu, nums_zero, by unfold I64; dsimp only; omega, by unfold I64; dsimp only; omega⟩, validDev_of hvs (validDig_zero hs) (by dsimp only; omega) (.inl rfl) (fun h => by cases h)⟩
theorem batchT_at {s : List Int} {n : Int} {k i : Nat} (h : i < k) : ((List.range k).map (batchT s n)).getD i zT = batchT s n i := by simp [List.getD, h]
theorem batchT_val {s : List Int} {n : Int} (hvs : validStack s = true) (hn : 1 ≤ n ∧ n ≤ size s - 1) (i : Nat) : validDig s (batchT s n i).shows.l = true ∧ val s (batchT s n i).shows.l = n := by
  have hs := Go.W.stk hvs
  have hz := hs.size_
  refine ⟨addD_valid hs, ?_⟩
  show val s (addD s zDig n).l = n
  rw [addD_val hs, val_zero hs, Int.zero_add, Int.emod_eq_of_lt (by omega) (by omega)]
end Go.W

/- Stacks, devices and acts that are drawn; what the law of journals asks. -/
set_option linter.unusedVariables false
set_option linter.unusedSimpArgs false
namespace Go.W
open Go Go.Sx
/-- A stack in the making. -/
def StkP (l : List Int) : Prop := ∀ i, i < l.length → 2 ≤ l.getD i 0 ∧ l.getD i 0 ≤ 100
structure StS where
  l : List Int
  k : Int
  at_ : Int
  sd : Int
  A : Option Addr
  c : Nat
theorem StkP.nil : StkP [] := fun i hi => by simp at hi
theorem StkP.next {l : List Int} {x : Int} (h : StkP l) (hx : 2 ≤ x ∧ x ≤ 100) : StkP (l ++ [x]) := fun i hi => by
  rcases Nat.lt_or_ge i l.length with h1 | h1
  · rw [getD_l h1]; exact h i h1
  · have : i = l.length + 0 := by simp at hi; omega
    subst this; rw [getD_r rfl]; exact hx
theorem prod_pow : ∀ {l : List Int}, StkP l → 1 ≤ prod l ∧ prod l ≤ 100 ^ l.length
  | [], _ => by simp [prod]
  | b :: s, h => by
    have h1 := h 0 (by simp)
    have h2 := prod_pow (l := s) fun i hi => by have := h (i + 1) (by simp; omega); simpa using this
    have h1' : 2 ≤ b ∧ b ≤ 100 := by simpa using h1
    have h3 : 2 * 1 ≤ b * prod s := Int.mul_le_mul h1'.1 h2.1 (by omega) (by omega)
    have h4 : b * prod s ≤ 100 * 100 ^ s.length := Int.mul_le_mul h1'.2 h2.2 (by omega) (by omega)
    have h5 : (100 : Int) ^ (s.length + 1) = 100 * 100 ^ s.length := by rw [Int.pow_succ, Int.mul_comm]
    simp only [prod, List.length_cons, h5]; omega
/-- A stack as it is drawn. -/
def DrStk (l : List Int) : Prop := StkP l ∧ 1 ≤ l.length ∧ l.length ≤ 4
theorem DrStk.nums {l : List Int} (h : DrStk l) : Nums 255 l := fun x hx => by
  obtain ⟨i, hi, rfl⟩ := List.getElem_of_mem hx
  have := h.1 i hi
  simp only [List.getD, List.getElem?_eq_getElem hi, Option.getD_some] at this
  omega
theorem DrStk.size {l : List Int} (h : DrStk l) : size l = prod l ∧ 1 ≤ prod l ∧ prod l ≤ 100000000 := by
  have h1 := prod_pow h.1
  have h2 : (100 : Int) ^ l.length ≤ 100000000 := by
    obtain ⟨h3, h4, h5⟩ := h
    have h6 : l.length = 1 ∨ l.length = 2 ∨ l.length = 3 ∨ l.length = 4 := by omega
    rcases h6 with h6 | h6 | h6 | h6 <;> rw [h6] <;> decide
  have h6 := size_prod (s := l) h.1
  exact ⟨by omega, h1.1, by omega⟩
theorem DrStk.valid {l : List Int} (h : DrStk l) : validStack l = true := by
  have h1 := h.size
  unfold validStack; rw [decide_eq_true_iff]
  exact ⟨h.2.1, by have := h.2.2; omega, h.1, by omega⟩
theorem drawn_dev {s : List Int} {v p t : Int} {b : Bool} (h : DrStk s) (hv : 0 ≤ v ∧ v < size s) (hp : p = -1 ∨ 0 ≤ p ∧ p < size s) (hb : b = true → p = v) (ht : 0 ≤ t ∧ t ≤ 19) : DrDev ⟨s, dig (digs s v), p, b, t⟩ := by
  have hz := h.size
  have hs := Go.W.stk h.valid
  have hl := h.2.2
  have hdl : (dig (digs s v)).l = digs s v := dig_l (digs_len _ _)
  refine ⟨⟨show s.length ≤ maxLen by unfold maxLen; omega, h.nums, by show Nums 255 (dig (digs s v)).l; rw [hdl]; exact digs_num hs.bases, show I64 p by unfold I64; omega, show I64 t by unfold I64; omega⟩,
    validDev_of h.valid (by show validDig s (dig (digs s v)).l = true; rw [hdl]; exact digs_valid hs) (by show 0 ≤ t ∧ t ≤ 1000000; omega) (by show p = -1 ∨ 0 ≤ p ∧ p ≤ size s - 1; omega) (fun h1 => ?_), hl, ht⟩
  show p = val s (dig (digs s v)).l
  rw [hdl, val_of hs, Int.emod_eq_of_lt hv.1 (by omega)]; exact hb h1
theorem DrDev.len {d : VDev} (h : DrDev d) : 0 < d.stack.length ∧ d.stack.length ≤ 4 ∧ validStack d.stack = true ∧ Nums 255 d.stack ∧ 2 ≤ size d.stack ∧ size d.stack ≤ 1000000000000 := by
  obtain ⟨hk, hv, hl, _⟩ := h
  have hO := devOk hk.2.2.1 hv
  have h1 : validStack d.stack = true := by unfold validDev at hv; rw [decide_eq_true_iff] at hv; exact hv.1
  have h2 := hO.stk.len1
  have h3 := sizeS hO
  have h4 := hO.stk.le
  have h5 := size_two hO.stk
  exact ⟨by omega, hl, h1, hk.2.1, by omega, by omega⟩
/-- Acts in the making. -/
structure AcS where
  l : List VAct
  k : Int
  at_ : Int
  sd : Int
  A : Option Addr
  c : Nat
def ActP (s : List Int) (l : List VAct) : Prop := ∀ i, i < l.length → OkJ s (l.getD i zA)
theorem ActP.nil {s : List Int} : ActP s [] := fun i hi => by simp at hi
theorem ActP.next {s : List Int} {l : List VAct} {x : VAct} (h : ActP s l) (hx : OkJ s x) : ActP s (l ++ [x]) := fun i hi => by
  rcases Nat.lt_or_ge i l.length with h1 | h1
  · rw [getD_l h1]; exact h i h1
  · have : i = l.length + 0 := by simp at hi; omega
    subst this; rw [getD_r rfl]; exact hx
theorem notes_at {d : VDev} {l : List VAct} (hR : RunOk d l) {i : Nat} (hi : i < l.length) : (runV d l).2.1.getD i zN = ⟨l.getD i zA, (doV (runD d l i) (l.getD i zA)).1.shows, (doV (runD d l i) (l.getD i zA)).2.1⟩ := by
  rw [hR.rv]; exact notesL_at d l _ i hi
theorem notes_okn {d : VDev} {l : List VAct} (h : DrDev d) (hl : DrActs d.stack l) : ∀ i, i < l.length → OkNote ((runV d l).2.1.getD i zN) := fun i hi => by
  have hn := note_ok h hl hi
  have hR := run_drawn h hl
  rw [notes_at hR hi] at hn ⊢
  have h4 := run_ok h.1 h.2.1 (fun i hi => (hl.2 i hi).valid) (i + 1) (by omega)
  refine ⟨(hl.2 i hi).ok, h4.1.2.2.1, ?_⟩
  have := hn.2.1; have := hn.2.2.1
  unfold I64; dsimp only at *; omega
theorem mem_at {α : Type} {p : α → Prop} {l : List α} (d : α) (h : ∀ i, i < l.length → p (l.getD i d)) : ∀ x ∈ l, p x := fun x hx => by
  obtain ⟨i, hi, rfl⟩ := List.getElem_of_mem hx
  have := h i hi
  simpa [List.getD, hi] using this
/-- What is known of a journal of a device and of acts that are drawn. -/
structure Jrn (d : VDev) (l : List VAct) : Prop where
  code : (runV d l).2.2.2.2 = 0
  len : (runV d l).2.1.length = l.length
  ok : ∀ x ∈ (runV d l).2.1, OkNote x
  right : firstWrong d (runV d l).2.1 = (0, 6)
  each : ∀ i, i < l.length → sameA ((runV d l).2.1.getD i zN).act (l.getD i zA) = true ∧ 0 ≤ ((runV d l).2.1.getD i zN).lost ∧ ((runV d l).2.1.getD i zN).lost ≤ 19 ∧ ((l.getD i zA).kind ≠ 3 → ((runV d l).2.1.getD i zN).lost ≤ (l.getD i zA).n) ∧ (2 < (l.getD i zA).kind → ((runV d l).2.1.getD i zN).lost = 0)
  bent : ∀ k, k < l.length → firstWrong d (bent (runV d l).2.1 k) = ((k : Int), 0) ∧ ∀ x ∈ bent (runV d l).2.1 k, OkNote x
theorem jrn {d : VDev} {l : List VAct} (h : DrDev d) (hl : DrActs d.stack l) : Jrn d l := by
  have hR := run_drawn h hl
  have hn := hl.1
  have hlen := notes_len hR
  have hok := notes_okn h hl
  have ha := fun i hi => (hl.2 i hi).valid
  refine ⟨by rw [hR.rv], hlen, mem_at zN (by rw [hlen]; exact hok), fw_run h.2.1 (by omega) ha hR, fun i hi => ?_, fun k hk => ⟨fw_bent h.2.1 (by omega) ha hR hk, mem_at zN fun i hi => ?_⟩⟩
  · have := note_ok h hl hi
    exact ⟨by rw [this.1]; exact sameA_refl _, this.2⟩
  · rw [bent_len, hlen] at hi
    rw [bent_at (by omega) i]
    split
    · rename_i e; subst e
      have h1 := hok i hi
      have h2 := note_ok h hl hi
      refine ⟨h1.1, h1.2.1, ?_⟩
      have := h2.2.1; have := h2.2.2.1
      show I64 (((runV d l).2.1.getD i zN).lost + 1)
      unfold I64; omega
    · exact hok i hi
theorem bent_put {ns : List VNote} {k q : Nat} {z : Int} {v : List Value} (h : k < ns.length) (hq : q = k * 11 + 10) (hz : z = (ns.getD k zN).lost + 1) (hv : v = [.int .i64 z]) : put (ns.flatMap encN) q v = (bent ns k).flatMap encN := by
  subst hv; subst hz
  exact flat_putp encN_len zN ns k ⟨(ns.getD k zN).act, (ns.getD k zN).shows, (ns.getD k zN).lost + 1⟩ h 10 [.int .i64 ((ns.getD k zN).lost + 1)] rfl rfl hq
/-- What is known of batches. -/
structure Btc (s : List Int) (E : VDev) (n m : Int) : Prop where
  dev : OkDev E ∧ validDev E = true
  stk : E.stack = s
  two : (batchV E n m).2 = 0
  len : (batchV E n m).1.length ≤ 60
  run : (runV E (batchV E n m).1).2.2.2.2 = 0
  lost : (runV E (batchV E n m).1).2.2.2.1 = 0
  tick : (runV E (batchV E n m).1).1.tickets = m
  many : ((runV E (batchV E n m).1).2.2.1.length : Int) = m
  each : ∀ i, i < (runV E (batchV E n m).1).2.2.1.length → validDig s ((runV E (batchV E n m).1).2.2.1.getD i zT).shows.l = true ∧ Nums 255 ((runV E (batchV E n m).1).2.2.1.getD i zT).shows.l ∧ val s ((runV E (batchV E n m).1).2.2.1.getD i zT).shows.l = n
theorem btc {s : List Int} {E : VDev} {n m : Int} (hE : (newDev s).1 = E) (hu : Nums 255 s) (hvs : validStack s = true) (hn : 1 ≤ n ∧ n ≤ size s - 1) (hm : 0 ≤ m ∧ m ≤ 10) : Btc s E n m := by
  subst hE
  obtain ⟨k, rfl⟩ : ∃ k : Nat, m = (k : Int) := ⟨m.toNat, by omega⟩
  have hd := newdev_ok hu hvs
  have e := nwd_t hvs
  have hb : batchV ⟨s, zDig, -1, false, 0⟩ n k = (batchL n k, 0) := bt_ok hd.2 ⟨hn, by omega⟩ (by omega)
  obtain ⟨h1, h2, h3, h4, h5⟩ := batch_ok hvs hn (k := k) (by omega) hd.2
  have hl := batchL_len n k
  refine ⟨?_, ?_, ?_, ?_, ?_, ?_, ?_, ?_, ?_⟩ <;> rw [e] <;> try simp only [hb]
  · exact hd
  · omega
  · exact h5
  · exact h4
  · rw [h2]
  · rw [h3]; simp
  · intro i hi
    rw [h3] at hi ⊢
    simp only [List.length_map, List.length_range] at hi
    rw [batchT_at hi]
    have := batchT_val (n := n) hvs hn i
    exact ⟨this.1, addD_num (Go.W.stk hvs), this.2⟩
end Go.W

/- The program's best plan, in plain numbers: what its loops carry on. -/
set_option linter.unusedVariables false
set_option linter.unusedSimpArgs false
namespace Go.W
open Go Go.Sx
theorem fr_indexAddrE {β : Type} {C : Cx} {env : Env} {m : List Ent} {o : Oper} {A : Option Addr} {f : β → List Value} {sz : Nat} {xs : List β} {n : Nat} {S x y E c k i} (he : xs.length = n) (H : Reads C m A (xs.flatMap f)) (hf : ∀ x, (f x).length = sz) (ho : o.op = .indexAddr S x y) (hx : ev env x = some (.slice A n c)) (hy : ev env y = some (.int k i)) (hS : C.P.underlying S = some (.slice E)) (hs : (C.P.info? E).map (·.size) = some sz) (hp : Nat.blt 0 sz = true) (hi : 0 ≤ i ∧ i < n) : Free C o env m (.pointer (offA A (i.toNat * sz))) := by
  subst he; exact fr_indexAddrF H hf ho hx hy hS hs hp hi
theorem rd_nil (w : World) : Rd w zPl.A (zPl.xs.flatMap (eI .i64)) := fun j u hj => by simp [zPl] at hj
theorem pl_put {Q : List VPl} {i q : Nat} {v : List Value} (r : VPl) (h : i < Q.length) (hq : q = i * 3) (hv : v = encPl r) : put (Q.flatMap encPl) q v = (Q.set i r).flatMap encPl := by
  subst hq hv; exact flat_put encPl_len _ _ _ h
theorem pl_zero {zs : List Value} {n : Nat} (h : zs = encPl zPl) : zerosL zs n = (List.replicate n zPl).flatMap encPl := by
  subst h; exact zeros_flat encPl_len zPl (by omega) n
theorem set_at {Q : List VPl} {i k : Nat} {r : VPl} (h : i < Q.length) : (Q.set i r).getD k zPl = if k = i then r else Q.getD k zPl := by
  simp only [List.getD]
  by_cases e : k = i
  · subst e; rw [if_pos rfl, List.getElem?_set_self h]; rfl
  · rw [if_neg e, List.getElem?_set_ne (fun e' => e e'.symm)]
theorem less_cost {p q : VT} (h : lessT p q = true) : p.cost ≤ q.cost := by
  unfold lessT at h
  have := of_decide_eq_true h
  unfold c3 at this
  by_cases h1 : q.cost < p.cost
  · rw [if_neg (by omega : ¬ p.cost < q.cost), if_pos h1] at this; simp at this
  · omega
theorem less_not {p q : VT} (h : lessT p q = false) : q.cost ≤ p.cost := by
  unfold lessT at h
  have := of_decide_eq_false h
  unfold c3 at this
  by_cases h1 : p.cost < q.cost
  · rw [if_pos h1] at this; simp at this
  · omega
/-- Bounds of a list of plans. -/
def TBd (L : List VT) : Prop := ∀ j, j < L.length → (0 ≤ (L.getD j zT0).cost ∧ (L.getD j zT0).cost ≤ (j : Int)) ∧ (0 ≤ (L.getD j zT0).breaks ∧ (L.getD j zT0).breaks ≤ (j : Int)) ∧ (L.getD j zT0).kept.length ≤ j + 1
theorem inT_bd {fit : Nat → Nat → Bool} {n d : Nat} {wo : Int} {L : List VT} (h : TBd L) (hl : L.length = d) : ∀ m, m ≤ d → (0 ≤ (innT fit n wo d L m).cost ∧ (innT fit n wo d L m).cost ≤ (d : Int)) ∧ (0 ≤ (innT fit n wo d L m).breaks ∧ (innT fit n wo d L m).breaks ≤ (d : Int)) ∧ (innT fit n wo d L m).kept.length ≤ d + 1
  | 0, _ => by
    refine ⟨⟨?_, ?_⟩, ⟨?_, ?_⟩, ?_⟩ <;> simp [innT, fromT, zT0]
  | m + 1, hm => by
    have ih := inT_bd (fit := fit) (n := n) (wo := wo) h hl m (by omega)
    have h1 := h (d - 1 - m) (by omega)
    have h2 := brk_bd (fit (n - 1 - d) (n - d + m))
    rw [innT]
    split
    · exact ih
    · split
      · rename_i hq
        have h3 := less_cost hq
        refine ⟨⟨?_, Int.le_trans h3 ih.1.2⟩, ⟨?_, ?_⟩, ?_⟩
        · simp only [candT, fromT]; omega
        · simp only [candT, fromT]; omega
        · simp only [candT, fromT]; omega
        · simp only [candT, fromT, List.length_cons]; omega
      · exact ih
theorem tl_bd (fit : Nat → Nat → Bool) (n : Nat) (wo : Int) : ∀ d, TBd (tl fit n wo d)
  | 0 => fun j hj => by simp [tl] at hj
  | d + 1 => fun j hj => by
    have ih := tl_bd fit n wo d
    have hl := tl_len fit n wo d
    rw [tl_len] at hj
    rcases Nat.lt_or_ge j d with h1 | h1
    · have e : (tl fit n wo (d + 1)).getD j zT0 = (tl fit n wo d).getD j zT0 := by rw [tl_at hj, tl_at h1]
      rw [e]; exact ih j (by omega)
    · obtain rfl : j = d := by omega
      rw [tl_at (Nat.lt_succ_self j)]
      split
      · simp [zT0]
      · exact inT_bd ih hl j (Nat.le_refl _)
theorem bt_bd (fit : Nat → Nat → Bool) (n : Nat) (wo : Int) : ∀ d, d ≤ n → 0 ≤ (btT fit n wo d).2.cost ∧ (btT fit n wo d).2.cost ≤ (n : Int) ∧ (btT fit n wo d).2.kept.length ≤ n + 1
  | 0, _ => by simp [btT, zT0]
  | d + 1, hd => by
    have ih := bt_bd fit n wo d (by omega)
    have hi := inT_bd (fit := fit) (n := n) (wo := wo) (tl_bd fit n wo d) (tl_len fit n wo d) d (Nat.le_refl _)
    rw [btT]
    split
    · exact ih
    · split
      · simp only [addT]; omega
      · exact ih
/-- What the outer loop carries on. -/
structure BI (fit : Nat → Nat → Bool) (n : Nat) (wo : Int) (T : TypeId) (d : Nat) (Q : List VPl) (P : List Rw) (o : VPl) : Prop where
  dn : d ≤ n
  len : Q.length = n
  zero : ∀ k, k < n - d → Q.getD k zPl = zPl
  done : ∀ k, n - d ≤ k → k < n → (Q.getD k zPl).t = (tl fit n wo d).getD (n - 1 - k) zT0 ∧ OkPl T P (Q.getD k zPl)
  out : o.t = (btT fit n wo d).2
  ok : OkPl T P o
/-- What the inner loop carries on. -/
structure II (fit : Nat → Nat → Bool) (n : Nat) (wo : Int) (T : TypeId) (d m : Nat) (Q : List VPl) (P : List Rw) (o : VPl) : Prop where
  dn : d < n
  mn : m ≤ d
  len : Q.length = n
  zero : ∀ k, k < n - 1 - d → Q.getD k zPl = zPl
  cur : (Q.getD (n - 1 - d) zPl).t = innT fit n wo d (tl fit n wo d) m
  cok : OkPl T P (Q.getD (n - 1 - d) zPl)
  done : ∀ k, n - d ≤ k → k < n → (Q.getD k zPl).t = (tl fit n wo d).getD (n - 1 - k) zT0 ∧ OkPl T P (Q.getD k zPl)
  out : o.t = (btT fit n wo d).2
  ok : OkPl T P o
theorem bi_0 (fit : Nat → Nat → Bool) (n : Nat) (wo : Int) (T : TypeId) : BI fit n wo T 0 (List.replicate n zPl) [] zPl := by
  refine ⟨Nat.zero_le _, by simp, fun k hk => ?_, fun k h1 h2 => by omega, rfl, OkPl.zero _ _⟩
  simp only [List.getD, List.getElem?_replicate]; split <;> rfl
variable {fit : Nat → Nat → Bool} {n d m : Nat} {wo : Int} {T : TypeId} {Q : List VPl} {P : List Rw} {o : VPl}
theorem BI.skip (h : BI fit n wo T d Q P o) (hd : d < n) (hw : ((n - 1 - d : Nat) : Int) = wo) : BI fit n wo T (d + 1) Q P o := by
  refine ⟨by omega, h.len, fun k hk => h.zero k (by omega), fun k h1 h2 => ?_, ?_, h.ok⟩
  · by_cases e : k = n - 1 - d
    · have hz := h.zero k (by omega)
      rw [hz, tl_at (by omega), if_pos (by rw [show n - 1 - (n - 1 - k) = n - 1 - d by omega]; exact hw)]
      exact ⟨rfl, OkPl.zero _ _⟩
    · have := h.done k (by omega) h2
      rw [tl_at (by omega)] at this ⊢; exact this
  · rw [btT, if_pos hw]; exact h.out
theorem BI.start (h : BI fit n wo T d Q P o) (hd : d < n) (r : VPl) (hr : r.t = fromT zT0 ((n - 1 - d : Nat) : Int) d 0) (hs : r.A.isSome = true) : II fit n wo T d 0 (Q.set (n - 1 - d) r) (P ++ [rowPl T r]) o := by
  have hlt : n - 1 - d < Q.length := by rw [h.len]; omega
  refine ⟨hd, Nat.zero_le _, by rw [List.length_set]; exact h.len, fun k hk => ?_, ?_, ?_, fun k h1 h2 => ?_, h.out, h.ok.more _⟩
  · rw [set_at hlt, if_neg (by omega)]; exact h.zero k (by omega)
  · rw [set_at hlt, if_pos rfl]; exact hr
  · rw [set_at hlt, if_pos rfl]; exact .inl ⟨by simp, hs⟩
  · rw [set_at hlt, if_neg (by omega)]
    exact ⟨(h.done k h1 h2).1, (h.done k h1 h2).2.more _⟩
theorem II.skip (h : II fit n wo T d m Q P o) (hm : m < d) (hw : ((n - d + m : Nat) : Int) = wo) : II fit n wo T d (m + 1) Q P o :=
  ⟨h.dn, by omega, h.len, h.zero, by rw [innT, if_pos hw]; exact h.cur, h.cok, h.done, h.out, h.ok⟩
theorem II.cand (h : II fit n wo T d m Q P o) (hm : m < d) : (Q.getD (n - d + m) zPl).t = (tl fit n wo d).getD (d - 1 - m) zT0 ∧ OkPl T P (Q.getD (n - d + m) zPl) := by
  have h1 := h.dn
  have := h.done (n - d + m) (by omega) (by omega)
  rwa [show n - 1 - (n - d + m) = d - 1 - m by omega] at this
theorem II.keep (h : II fit n wo T d m Q P o) (hm : m < d) (hw : ¬ ((n - d + m : Nat) : Int) = wo) (r : VPl) (hr : r.t = candT fit n d (tl fit n wo d) m) (hq : lessT r.t (Q.getD (n - 1 - d) zPl).t = false) : II fit n wo T d (m + 1) Q (P ++ [rowPl T r]) o := by
  refine ⟨h.dn, by omega, h.len, h.zero, ?_, h.cok.more _, fun k h1 h2 => ⟨(h.done k h1 h2).1, (h.done k h1 h2).2.more _⟩, h.out, h.ok.more _⟩
  rw [innT, if_neg hw, if_neg (by rw [← hr, ← h.cur, hq]; decide)]; exact h.cur
theorem II.take (h : II fit n wo T d m Q P o) (hm : m < d) (hw : ¬ ((n - d + m : Nat) : Int) = wo) (r : VPl) (hr : r.t = candT fit n d (tl fit n wo d) m) (hs : r.A.isSome = true) (hq : lessT r.t (Q.getD (n - 1 - d) zPl).t = true) : II fit n wo T d (m + 1) (Q.set (n - 1 - d) r) (P ++ [rowPl T r]) o := by
  have hdn := h.dn
  have hlt : n - 1 - d < Q.length := by rw [h.len]; omega
  refine ⟨h.dn, by omega, by rw [List.length_set]; exact h.len, fun k hk => ?_, ?_, ?_, fun k h1 h2 => ?_, h.out, h.ok.more _⟩
  · rw [set_at hlt, if_neg (by omega)]; exact h.zero k hk
  · rw [set_at hlt, if_pos rfl, innT, if_neg hw, if_pos (by rw [← hr, ← h.cur, hq]), hr]
  · rw [set_at hlt, if_pos rfl]; exact .inl ⟨by simp, hs⟩
  · rw [set_at hlt, if_neg (by omega)]
    exact ⟨(h.done k h1 h2).1, (h.done k h1 h2).2.more _⟩
/-- The plan of the reading at hand, its start counted in. -/
def addP (p : VPl) (i : Int) : VPl := ⟨p.cost + i * 1, p.breaks, p.A, p.c, p.xs⟩
theorem addP_t (p : VPl) (i : Int) : (addP p i).t = addT p.t i := rfl
theorem II.base (h : II fit n wo T d d Q P o) (hw : ¬ ((n - 1 - d : Nat) : Int) = wo) : ∀ k, n - (d + 1) ≤ k → k < n → (Q.getD k zPl).t = (tl fit n wo (d + 1)).getD (n - 1 - k) zT0 ∧ OkPl T P (Q.getD k zPl) := fun k h1 h2 => by
  have hdn := h.dn
  by_cases e : k = n - 1 - d
  · subst e
    rw [show n - 1 - (n - 1 - d) = d by omega, tl_at (Nat.lt_succ_self d), if_neg hw]
    exact ⟨h.cur, h.cok⟩
  · have := h.done k (by omega) h2
    rw [tl_at (by omega)] at this ⊢; exact this
theorem OkPl.add {p : VPl} (h : OkPl T P p) (i : Int) : OkPl T P (addP p i) := h
theorem II.new (h : II fit n wo T d d Q P o) (hw : ¬ ((n - 1 - d : Nat) : Int) = wo) (hq : (btT fit n wo d).1 = false ∨ lessT (addP (Q.getD (n - 1 - d) zPl) ((n - 1 - d : Nat) : Int)).t o.t = true) : BI fit n wo T (d + 1) Q P (addP (Q.getD (n - 1 - d) zPl) ((n - 1 - d : Nat) : Int)) ∧ (btT fit n wo (d + 1)).1 = true := by
  have hdn := h.dn
  have e : btT fit n wo (d + 1) = (true, addT (innT fit n wo d (tl fit n wo d) d) ((n - 1 - d : Nat) : Int)) := by
    rw [btT, if_neg hw, if_pos (by rw [addP_t, h.cur, h.out] at hq; exact hq)]
  refine ⟨⟨by omega, h.len, fun k hk => h.zero k (by omega), h.base hw, ?_, h.cok.add _⟩, by rw [e]⟩
  rw [e, addP_t, h.cur]
theorem II.old (h : II fit n wo T d d Q P o) (hw : ¬ ((n - 1 - d : Nat) : Int) = wo) (hq : (btT fit n wo d).1 = true) (hq2 : lessT (addP (Q.getD (n - 1 - d) zPl) ((n - 1 - d : Nat) : Int)).t o.t = false) : BI fit n wo T (d + 1) Q P o ∧ (btT fit n wo (d + 1)).1 = true := by
  have hdn := h.dn
  have e : btT fit n wo (d + 1) = btT fit n wo d := by
    rw [btT, if_neg hw, if_neg (by rw [addP_t, h.cur, h.out] at hq2; rw [hq, hq2]; simp)]
  refine ⟨⟨by omega, h.len, fun k hk => h.zero k (by omega), h.base hw, by rw [e]; exact h.out, h.ok⟩, by rw [e]; exact hq⟩
structure BSt where
  d : Nat
  Q : List VPl
  P : List Rw
  o : VPl
structure ISt where
  m : Nat
  Q : List VPl
  P : List Rw
theorem II.cbd (h : II fit n wo T d m Q P o) (hm : m < d) : (0 ≤ (Q.getD (n - d + m) zPl).cost ∧ (Q.getD (n - d + m) zPl).cost ≤ (d : Int)) ∧ (0 ≤ (Q.getD (n - d + m) zPl).breaks ∧ (Q.getD (n - d + m) zPl).breaks ≤ (d : Int)) ∧ (Q.getD (n - d + m) zPl).xs.length ≤ d := by
  have h1 := (h.cand hm).1
  have h2 := tl_bd fit n wo d (d - 1 - m) (by rw [tl_len]; omega)
  rw [← h1] at h2
  have h3 : (0 ≤ (Q.getD (n - d + m) zPl).cost ∧ (Q.getD (n - d + m) zPl).cost ≤ ((d - 1 - m : Nat) : Int)) ∧ (0 ≤ (Q.getD (n - d + m) zPl).breaks ∧ (Q.getD (n - d + m) zPl).breaks ≤ ((d - 1 - m : Nat) : Int)) ∧ (Q.getD (n - d + m) zPl).xs.length ≤ d - 1 - m + 1 := h2
  omega
theorem II.ibd (h : II fit n wo T d m Q P o) : (0 ≤ (Q.getD (n - 1 - d) zPl).cost ∧ (Q.getD (n - 1 - d) zPl).cost ≤ (d : Int)) ∧ (0 ≤ (Q.getD (n - 1 - d) zPl).breaks ∧ (Q.getD (n - 1 - d) zPl).breaks ≤ (d : Int)) ∧ (Q.getD (n - 1 - d) zPl).xs.length ≤ d + 1 := by
  have h2 := inT_bd (fit := fit) (n := n) (wo := wo) (tl_bd fit n wo d) (tl_len fit n wo d) m h.mn
  rw [← h.cur] at h2; exact h2
theorem II.obd (h : II fit n wo T d m Q P o) : o.xs.length ≤ n + 1 := by
  have h2 := bt_bd fit n wo d (by have := h.dn; omega)
  rw [← h.out] at h2; exact h2.2.2
theorem canK_bool {K : List (VX Bool)} (h : CanK fit n K) {i j : Nat} (hi : i < K.length) (hij : i < j) (hj : j < n) : (K.getD i zX).xs.length = n ∧ (K.getD i zX).xs.getD j false = fit i j := by
  rw [h i hi]; exact ⟨canP_len _ _ _ _, canR_at hj hij⟩
end Go.W

/- Sure misreads, in plain numbers. -/
set_option linter.unusedVariables false
set_option linter.unusedSimpArgs false
namespace Go.W
open Go Go.Sx
variable {fit : Nat → Nat → Bool} {n i k q : Nat} {v : List Value}
/-- The list of what comes ahead, the first i of them told. -/
def flO (fit : Nat → Nat → Bool) (n i : Nat) : List Int := fl fit i ++ List.replicate (n - i) 0
/-- And the next one being x so far. -/
def flR (fit : Nat → Nat → Bool) (n i : Nat) (x : Int) : List Int := fl fit i ++ x :: List.replicate (n - i - 1) 0
theorem flO_len (h : i ≤ n) : (flO fit n i).length = n := by unfold flO; simp [fl_len]; omega
theorem flR_len {x : Int} (h : i < n) : (flR fit n i x).length = n := by unfold flR; simp [fl_len]; omega
theorem flO_zero {zs : List Value} (h : zs = eI .i64 0) : zerosL zs n = (flO fit n 0).flatMap (eI .i64) := by
  subst h; rw [zeros_flat (eI_len .i64) 0 (by omega) n]; unfold flO; simp [fl]
theorem flO_put {x : Int} (h : i < n) (hq : q = i * 1) (hv : v = eI .i64 x) : put ((flO fit n i).flatMap (eI .i64)) q v = (flR fit n i x).flatMap (eI .i64) := by
  subst hq hv
  rw [flat_put (eI_len .i64) _ _ _ (by rw [flO_len (by omega)]; exact h)]
  congr 1
  unfold flO flR
  have hl := fl_len fit i
  obtain ⟨j, hj⟩ : ∃ j, n - i = j + 1 := ⟨n - i - 1, by omega⟩
  rw [List.set_append_right _ _ (by omega), hl, Nat.sub_self, hj, List.replicate_succ, List.set_cons_zero, Nat.add_sub_cancel]
theorem flR_at {x : Int} : (flR fit n i x).getD i 0 = x := by
  unfold flR; have hl := fl_len fit i
  simp only [List.getD]; rw [List.getElem?_append_right (by omega), hl, Nat.sub_self]; rfl
theorem flR_lo {x : Int} (h : k < i) : (flR fit n i x).getD k 0 = (fl fit i).getD k 0 := by
  unfold flR; have hl := fl_len fit i
  simp only [List.getD]; rw [List.getElem?_append_left (by omega)]
theorem flR_put {x y : Int} (h : i < n) (hq : q = i * 1) (hv : v = eI .i64 y) : put ((flR fit n i x).flatMap (eI .i64)) q v = (flR fit n i y).flatMap (eI .i64) := by
  subst hq hv
  rw [flat_put (eI_len .i64) _ _ _ (by rw [flR_len h]; exact h)]
  congr 1
  unfold flR
  have hl := fl_len fit i
  rw [List.set_append_right _ _ (by omega), hl, Nat.sub_self, List.set_cons_zero]
theorem flR_fin (h : i < n) : flR fit n i (finV fit i (fl fit i) i) = flO fit n (i + 1) := by
  unfold flR flO; rw [fl, List.append_assoc, show n - (i + 1) = n - i - 1 by omega]; rfl
/-- The least cost from each reading on, as the program's second list has it. -/
def bhO (fit : Nat → Nat → Bool) (n d : Nat) : List Int := (outR fit n d).map (·.cost)
def bhR (fit : Nat → Nat → Bool) (n d : Nat) (x : Int) : List Int := (bhO fit n d).set (n - 1 - d) x
theorem bhO_len {d : Nat} (h : d ≤ n) : (bhO fit n d).length = n := by unfold bhO; rw [List.length_map, outR_len h]
theorem bhR_len {d : Nat} {x : Int} (h : d ≤ n) : (bhR fit n d x).length = n := by unfold bhR; rw [List.length_set, bhO_len h]
theorem map_cost (L : List VR) (k : Nat) : (L.map (·.cost)).getD k 0 = (L.getD k zR).cost := by
  simp only [List.getD, List.getElem?_map]; cases L[k]? <;> rfl
theorem bhO_zero {zs : List Value} (h : zs = eI .i64 0) : zerosL zs n = (bhO fit n 0).flatMap (eI .i64) := by
  subst h; rw [zeros_flat (eI_len .i64) 0 (by omega) n]; unfold bhO outR; simp [rl, zR]
theorem bhO_put {d : Nat} {x : Int} (h : d < n) (hq : q = (n - 1 - d) * 1) (hv : v = eI .i64 x) : put ((bhO fit n d).flatMap (eI .i64)) q v = (bhR fit n d x).flatMap (eI .i64) := by
  subst hq hv
  rw [flat_put (eI_len .i64) _ _ _ (by rw [bhO_len (by omega)]; omega)]; rfl
theorem bhR_put {d : Nat} {x y : Int} (h : d < n) (hq : q = (n - 1 - d) * 1) (hv : v = eI .i64 y) : put ((bhR fit n d x).flatMap (eI .i64)) q v = (bhR fit n d y).flatMap (eI .i64) := by
  subst hq hv
  rw [flat_put (eI_len .i64) _ _ _ (by rw [bhR_len (by omega)]; omega)]; unfold bhR; rw [List.set_set]
theorem bhR_at {d : Nat} {x : Int} (h : d < n) : (bhR fit n d x).getD (n - 1 - d) 0 = x := by
  unfold bhR; simp only [List.getD]; rw [List.getElem?_set_self (by rw [bhO_len (by omega)]; omega)]; rfl
theorem bhR_hi {d m : Nat} {x : Int} (hd : d < n) (h : m < d) : (bhR fit n d x).getD (n - d + m) 0 = ((rl fit n d).getD (d - 1 - m) zR).cost := by
  unfold bhR
  have e : ((bhO fit n d).set (n - 1 - d) x).getD (n - d + m) 0 = (bhO fit n d).getD (n - d + m) 0 := by
    simp only [List.getD]; rw [List.getElem?_set_ne (by omega)]
  rw [e]; unfold bhO
  rw [map_cost, outR_at (by omega) (by omega) (by omega), show n - 1 - (n - d + m) = d - 1 - m by omega]
theorem bhR_fin {d : Nat} (h : d < n) : bhR fit n d (inn fit n d (rl fit n d) d).cost = bhO fit n (d + 1) := by
  unfold bhR bhO
  rw [← outR_set h, List.map_set]
theorem bhO_hi {d k : Nat} (hd : d ≤ n) (h1 : n - d ≤ k) (h2 : k < n) : (bhO fit n d).getD k 0 = ((rstL fit n).getD k zR).cost := by
  unfold bhO rstL
  rw [map_cost, outR_at hd h1 h2, outR_at (Nat.le_refl _) (by omega) h2]
  congr 1
  have key : ∀ e, d + e ≤ n → (rl fit n (d + e)).getD (n - 1 - k) zR = (rl fit n d).getD (n - 1 - k) zR := by
    intro e
    induction e with
    | zero => intro _; rfl
    | succ e ih =>
      intro he
      rw [← ih (by omega), ← Nat.add_assoc, rl, snocR_at (by rw [rl_len]; omega)]
  have := key (n - d) (by omega)
  rw [show d + (n - d) = n by omega] at this
  exact this.symm
/-! the least cost of all, both ways -/
theorem inT_cost {d m : Nat} {L : List VT} : (innT fit n (-1) d L (m + 1)).cost = min (innT fit n (-1) d L m).cost (candT fit n d L m).cost := by
  rw [innT, if_neg (by omega)]
  by_cases h : lessT (candT fit n d L m) (innT fit n (-1) d L m) = true
  · rw [if_pos h]; have := less_cost h; omega
  · rw [if_neg h]; have := less_not (by simpa using h); omega
theorem cost_same : ∀ d, d ≤ n → ∀ j, j < d → ((tl fit n (-1) d).getD j zT0).cost = ((rl fit n d).getD j zR).cost
  | d + 1, hd, j, hj => by
    have ih := cost_same d (by omega)
    have hl := rl_len fit n d
    rcases Nat.lt_or_ge j d with h1 | h1
    · have e : (tl fit n (-1) (d + 1)).getD j zT0 = (tl fit n (-1) d).getD j zT0 := by rw [tl_at hj, tl_at h1]
      rw [e, rl, snocR_at (by omega)]; exact ih j h1
    · obtain rfl : j = d := by omega
      have e2 : (rl fit n (j + 1)).getD j zR = inn fit n j (rl fit n j) j := by
        rw [rl]; have := snocR_last (L := rl fit n j) (r := inn fit n j (rl fit n j) j); rwa [hl] at this
      rw [tl_at (Nat.lt_succ_self j), if_neg (by omega), e2]
      have key : ∀ m, m ≤ j → (innT fit n (-1) j (tl fit n (-1) j) m).cost = (inn fit n j (rl fit n j) m).cost := by
        intro m
        induction m with
        | zero => intro _; simp [innT, inn, fromT, zT0]
        | succ m ihm =>
          intro hm
          rw [inT_cost, inn_cost, ihm (by omega)]
          have h2 := ih (j - 1 - m) (by omega)
          simp only [candT, fromT, candC, h2]; omega
      exact key j (Nat.le_refl _)
/-- The cost of a story that starts at a reading. -/
def totC_ (fit : Nat → Nat → Bool) (n i : Nat) : Int := (i : Int) + ((rstL fit n).getD i zR).cost
theorem bst_min : ∀ m, m ≤ n → 0 < m → (∀ i, i < m → (bstV fit n m).cost ≤ totC_ fit n i) ∧ (∃ i, i < m ∧ (bstV fit n m).cost = totC_ fit n i) ∧ 0 ≤ (bstV fit n m).next
  | m + 1, hm, _ => by
    by_cases hq : (bstV fit n m).next < 0 ∨ (m : Int) + ((rstL fit n).getD m zR).cost < (bstV fit n m).cost ∨ (m : Int) + ((rstL fit n).getD m zR).cost = (bstV fit n m).cost ∧ ((rstL fit n).getD m zR).breaks < (bstV fit n m).breaks
    · rw [bst_y hq]
      refine ⟨fun i hi => ?_, ⟨m, Nat.lt_succ_self m, rfl⟩, by dsimp only; omega⟩
      rcases Nat.lt_or_ge i m with h1 | h1
      · have ih := bst_min m (by omega) (by omega)
        have := ih.1 i h1
        unfold totC_ at this ⊢
        dsimp only; omega
      · rw [show i = m by omega]; exact Int.le_refl _
    · rw [bst_n hq]
      have h0 : 0 < m := by
        rcases Nat.eq_zero_or_pos m with h | h
        · subst h; exact absurd (.inl (by show (-1 : Int) < 0; decide)) hq
        · exact h
      have ih := bst_min m (by omega) h0
      obtain ⟨i0, hi0, e0⟩ := ih.2.1
      refine ⟨fun i hi => ?_, ⟨i0, by omega, e0⟩, ih.2.2⟩
      rcases Nat.lt_or_ge i m with h1 | h1
      · exact ih.1 i h1
      · rw [show i = m by omega]; unfold totC_; omega
theorem tl_more {wo : Int} {j d : Nat} (h : j < d) (hd : d ≤ n) : (tl fit n wo n).getD j zT0 = (tl fit n wo d).getD j zT0 := by rw [tl_at (by omega), tl_at h]
theorem inT_rst {d : Nat} (hd : d < n) : (innT fit n (-1) d (tl fit n (-1) d) d).cost = ((rstL fit n).getD (n - 1 - d) zR).cost := by
  have h1 := cost_same (fit := fit) (n := n) n (Nat.le_refl _) d hd
  rw [tl_at hd, if_neg (by omega)] at h1
  unfold rstL
  rw [h1, outR_at (Nat.le_refl _) (by omega) (by omega), show n - 1 - (n - 1 - d) = d by omega]
theorem bt_min : ∀ d, d ≤ n → 0 < d → (∀ i, n - d ≤ i → i < n → (btT fit n (-1) d).2.cost ≤ totC_ fit n i) ∧ (∃ i, n - d ≤ i ∧ i < n ∧ (btT fit n (-1) d).2.cost = totC_ fit n i) ∧ (btT fit n (-1) d).1 = true
  | d + 1, hd, _ => by
    have hr := inT_rst (fit := fit) (n := n) (d := d) (by omega)
    have hc : (addT (innT fit n (-1) d (tl fit n (-1) d) d) ((n - 1 - d : Nat) : Int)).cost = totC_ fit n (n - 1 - d) := by unfold totC_ addT; dsimp only; rw [hr]; omega
    rw [btT, if_neg (by omega)]
    by_cases hq : (btT fit n (-1) d).1 = false ∨ lessT (addT (innT fit n (-1) d (tl fit n (-1) d) d) ((n - 1 - d : Nat) : Int)) (btT fit n (-1) d).2 = true
    · rw [if_pos hq]
      refine ⟨fun i h1 h2 => ?_, ⟨n - 1 - d, by omega, by omega, hc⟩, rfl⟩
      show (addT _ _).cost ≤ _
      rw [hc]
      by_cases e : i = n - 1 - d
      · rw [e]; exact Int.le_refl _
      · have ih := bt_min d (by omega) (by omega)
        have h3 := ih.1 i (by omega) h2
        rcases hq with hq | hq
        · rw [ih.2.2] at hq; cases hq
        · have := less_cost hq; rw [hc] at this; omega
    · rw [if_neg hq]
      have h0 : 0 < d := by
        rcases Nat.eq_zero_or_pos d with h | h
        · subst h; exact absurd (.inl rfl) hq
        · exact h
      have ih := bt_min d (by omega) h0
      obtain ⟨i0, h1, h2, e0⟩ := ih.2.1
      refine ⟨fun i h3 h4 => ?_, ⟨i0, by omega, h2, e0⟩, ih.2.2⟩
      by_cases e : i = n - 1 - d
      · have h5 : lessT (addT (innT fit n (-1) d (tl fit n (-1) d) d) ((n - 1 - d : Nat) : Int)) (btT fit n (-1) d).2 = false := by
          cases h6 : lessT (addT (innT fit n (-1) d (tl fit n (-1) d) d) ((n - 1 - d : Nat) : Int)) (btT fit n (-1) d).2 with
          | false => rfl
          | true => exact absurd (.inr h6) hq
        have := less_not h5; rw [hc] at this; rw [e]; exact this
      · exact ih.1 i (by omega) h4
theorem pkR2 {e : Ent} {v : Value} {E s n : Nat} {xs ys : List Value} {r : List Ent} (h : xs = ys) : some (e :: Ent.row v E s n xs :: r) = some (e :: Ent.row v E s n ys :: r) := by rw [h]
theorem best_cost : (btT fit n (-1) n).2.cost = (bstV fit n n).cost := by
  rcases Nat.eq_zero_or_pos n with h | h
  · subst h; rfl
  · have h1 := bst_min (fit := fit) (n := n) n (Nat.le_refl _) h
    have h2 := bt_min (fit := fit) (n := n) n (Nat.le_refl _) h
    obtain ⟨i, hi, e1⟩ := h1.2.1
    obtain ⟨j, _, hj, e2⟩ := h2.2.1
    have h3 := h1.1 j hj
    have h4 := h2.1 i (by omega) hi
    omega
theorem fin_step {i k : Nat} (h : k < i) : min (finV fit i (fl fit i) k) ((fl fit i).getD k 0 + (((i : Int) - k - 1) + 2 * brk (fit k i))) = finV fit i (fl fit i) (k + 1) := by
  rw [finV]; congr 3; omega
end Go.W

/- Two things made in either order; what the program's counts come to. -/
set_option linter.unusedVariables false
set_option linter.unusedSimpArgs false
namespace Go.Sx
open Go Go.RowKit
variable {C : Cx} {env : Env} {m : List Ent} {l : List Oper} {K : Env → List Ent → Prop} {S : List Ent} {fuel i j di dj : Nat} {done : List Nat} {oi oj o : Oper}
theorem run_equal_ptr {P : Program} {w : World} {T E : TypeId} {A : Option Addr} (hT : P.underlying T = some (.pointer E)) : (Op.equal T (.pointer A) (.pointer none)).run P w = .ok A.isNone w := by
  unfold Op.equal Op.maxDepth
  rw [show (10000 : Nat) = 9999 + 1 from rfl]
  unfold Op.equalIn
  rw [Sem.run_bind, run_underlying hT]
  cases A <;> rfl
theorem fr_eql_ptr {T x y T' E A} (ho : o.op = .binOp .eql T x y T') (hx : ev env x = some (.pointer A)) (hy : ev env y = some (.pointer none)) (hT : C.P.underlying T = some (.pointer E)) : Free C o env m (.bool A.isNone) := by
  unfold Free
  intro a w hr _
  have h : (binOp .eql T (.pointer A) (.pointer none)).run C.P w = .ok (.bool A.isNone) w := by
    have hq := run_equal_ptr (P := C.P) (w := w) (A := A) hT
    unfold binOp
    simp only [Sem.run_bind, hq, Result.andThen_ok, Sem.run_pure]
  have hg : (eqGuard .eql T x y (.pointer A) (.pointer none)).run C.P w = .ok () w := by unfold eqGuard; rfl
  simp only [execOp, ho, hr.ev hx, hr.ev hy, Sem.run_bind, hg, Result.andThen_ok, h]; rfl
theorem fr_eql_ptr_n {T x y T' E} (ho : o.op = .binOp .eql T x y T') (hx : ev env x = some (.pointer none)) (hy : ev env y = some (.pointer none)) (hT : C.P.underlying T = some (.pointer E)) : Free C o env m (.bool true) := fr_eql_ptr ho hx hy hT
theorem fr_eql_ptr_s {T x y T' E a} (ho : o.op = .binOp .eql T x y T') (hx : ev env x = some (.pointer (some a))) (hy : ev env y = some (.pointer none)) (hT : C.P.underlying T = some (.pointer E)) : Free C o env m (.bool false) := fr_eql_ptr ho hx hy hT
end Go.Sx
namespace Go.W
open Go Go.Sx
variable {fit : Nat → Nat → Bool} {n i : Nat}
theorem flO_at {j : Nat} (h : i < j) : (flO fit n j).getD i 0 = finV fit i (fl fit i) i := by
  rw [← fl_at h]; unfold flO
  simp only [List.getD]; rw [List.getElem?_append_left (by rw [fl_len]; exact h)]
theorem inn_min {d m : Nat} {c : Int} (h : c = candC fit n d (rl fit n d) m) : min (inn fit n d (rl fit n d) m).cost c = (inn fit n d (rl fit n d) (m + 1)).cost := by rw [inn_cost, h]
/-- What the best story of those that keep a reading costs. -/
def withV (fit : Nat → Nat → Bool) (n i : Nat) : Int := finV fit i (fl fit i) i + ((rstL fit n).getD i zR).cost
end Go.W
