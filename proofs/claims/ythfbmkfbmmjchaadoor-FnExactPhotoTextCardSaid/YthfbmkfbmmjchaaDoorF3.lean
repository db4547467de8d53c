/- Rows that are only read: laid on a pile, and taken off it. -/
import Derived.Test.YthfbmkfbmmjchaaDoorF2
namespace Go.Sx
open Go Go.RowKit
variable {C : Cx} {env : Env} {m m' : List Ent} {Q : Post} {l rest : List Oper} {K : Env → List Ent → Prop}
theorem Rw.apart_comm {r s : Rw} (h : r.apart s) : s.apart r := fun b hb hr => h b hr hb
theorem Holds.pile0 {base w0 w} (h : Holds base w0 m w) : Holds base w0 (.pile [] :: m) w := by
  refine ⟨h.below, h.le, fun e he => ?_, List.pairwise_cons.2 ⟨fun f hf b hb => ?_, h.apart⟩, h.others⟩
  · rcases List.mem_cons.1 he with rfl | he
    · exact ⟨fun r hr => (nomatch hr), List.Pairwise.nil⟩
    · exact h.all e he
  · obtain ⟨r, hr, _⟩ := hb; cases hr
theorem Holds.lay {base w0 w} {r : Rw} {xs ys : List Rw} (h : Holds base w0 (.row r.v r.E r.sz r.n r.xs :: .pile (xs ++ ys) :: m) w) : Holds base w0 (.pile (xs ++ r :: ys) :: m) w := by
  have hr := h.all _ (List.mem_cons_self ..)
  have hp := h.all (.pile (xs ++ ys)) (by simp)
  obtain ⟨ha1, ha⟩ := List.pairwise_cons.1 h.apart
  obtain ⟨ha2, ha3⟩ := List.pairwise_cons.1 ha
  refine ⟨h.below, h.le, fun e he => ?_, List.pairwise_cons.2 ⟨fun f hf b hb => ?_, ha3⟩, h.others⟩
  · rcases List.mem_cons.1 he with rfl | he
    · refine ⟨fun s hs => ?_, ?_⟩
      · rcases List.mem_append.1 hs with hs | hs
        · exact hp.1 s (List.mem_append.2 (.inl hs))
        · rcases List.mem_cons.1 hs with rfl | hs
          · exact hr
          · exact hp.1 s (List.mem_append.2 (.inr hs))
      · refine (List.perm_middle.pairwise_iff fun h => Rw.apart_comm h).2 (List.pairwise_cons.2 ⟨fun s hs b hb hb2 => ?_, hp.2⟩)
        exact ha1 (.pile (xs ++ ys)) (by simp) b hb ⟨s, hs, hb2⟩
    · exact h.all e (by simp [he])
  · obtain ⟨s, hs, hb⟩ := hb
    rcases List.mem_append.1 hs with hs | hs
    · exact ha2 f hf b ⟨s, List.mem_append.2 (.inl hs), hb⟩
    · rcases List.mem_cons.1 hs with rfl | hs
      · exact ha1 f (by simp [hf]) b hb
      · exact ha2 f hf b ⟨s, List.mem_append.2 (.inr hs), hb⟩
theorem Holds.lift {base w0 w} {r : Rw} {xs ys : List Rw} (h : Holds base w0 (.pile (xs ++ r :: ys) :: m) w) : Holds base w0 (.row r.v r.E r.sz r.n r.xs :: .pile (xs ++ ys) :: m) w := by
  have hp := h.all (.pile (xs ++ r :: ys)) (by simp)
  obtain ⟨ha1, ha⟩ := List.pairwise_cons.1 h.apart
  obtain ⟨hq1, hq2⟩ := List.pairwise_cons.1 ((List.perm_middle.pairwise_iff fun h => Rw.apart_comm h).1 hp.2)
  have hin : ∀ s, s ∈ xs ++ ys → s ∈ xs ++ r :: ys := fun s hs => by
    rcases List.mem_append.1 hs with hs | hs
    · exact List.mem_append.2 (.inl hs)
    · exact List.mem_append.2 (.inr (List.mem_cons_of_mem _ hs))
  have hr : r ∈ xs ++ r :: ys := List.mem_append.2 (.inr (List.mem_cons_self ..))
  refine ⟨h.below, h.le, fun e he => ?_, List.pairwise_cons.2 ⟨fun f hf b hb => ?_, List.pairwise_cons.2 ⟨fun f hf b hb => ?_, ha⟩⟩, h.others⟩
  · rcases List.mem_cons.1 he with rfl | he
    · exact hp.1 r hr
    · rcases List.mem_cons.1 he with rfl | he
      · exact ⟨fun s hs => hp.1 s (hin s hs), hq2⟩
      · exact h.all e (by simp [he])
  · rcases List.mem_cons.1 hf with rfl | hf
    · rintro ⟨s, hs, hb2⟩
      exact hq1 s hs b hb hb2
    · exact ha1 f hf b ⟨r, hr, hb⟩
  · obtain ⟨s, hs, hb⟩ := hb
    exact ha1 f hf b ⟨s, hin s hs, hb⟩
theorem Ex.conv {c : Code} (hc : ∀ w, Holds C.base C.w0 m w → Holds C.base C.w0 m' w) (k : Ex C c env m' Q) : Ex C c env m Q := fun a w hr hh => k a w hr (hc w hh)
theorem ExL.conv (hc : ∀ w, Holds C.base C.w0 m w → Holds C.base C.w0 m' w) (k : ExL C l rest env m' K) : ExL C l rest env m K := fun a w hr hh => k a w hr (hc w hh)
theorem ExD.conv {S fuel done} (hc : ∀ w, Holds C.base C.w0 m w → Holds C.base C.w0 m' w) (k : ExD C l S fuel done env m' K) : ExD C l S fuel done env m K := fun a w hr hh => k a w hr (hc w hh)
/-- An empty pile. -/
theorem Ex.pile0 {c : Code} (k : Ex C c env (.pile [] :: m) Q) : Ex C c env m Q := Ex.conv (fun _ h => h.pile0) k
theorem ExL.pile0 (k : ExL C l rest env (.pile [] :: m) K) : ExL C l rest env m K := ExL.conv (fun _ h => h.pile0) k
theorem layHolds {F : List Ent} {v E sz n cs xs ys} (hp : m.Perm (.row v E sz n cs :: .pile (xs ++ ys) :: F)) : ∀ w, Holds C.base C.w0 m w → Holds C.base C.w0 (.pile (xs ++ ⟨v, E, sz, n, cs⟩ :: ys) :: F) w :=
  fun _ h => Holds.lay (r := ⟨v, E, sz, n, cs⟩) (h.perm hp)
theorem liftHolds {F : List Ent} {r : Rw} {xs ys} (hp : m.Perm (.pile (xs ++ r :: ys) :: F)) : ∀ w, Holds C.base C.w0 m w → Holds C.base C.w0 (.row r.v r.E r.sz r.n r.xs :: .pile (xs ++ ys) :: F) w :=
  fun _ h => Holds.lift (h.perm hp)
theorem Reads.pile {i : Nat} {rs : List Rw} {A n c E sz cs} (hi : m[i]? = some (.pile rs)) (hr : (⟨.slice A n c, E, sz, n, cs⟩ : Rw) ∈ rs) : Reads C m A cs := by
  have h : ∀ w, Holds C.base C.w0 m w → Rd w A cs := fun w hw => by
    have h1 := hw.all _ (List.mem_of_getElem? hi)
    have h2 : Ent.holds C.base w (.row (.slice A n c) E sz n cs) := h1.1 _ hr
    have h3 : Holds C.base C.w0 [.row (.slice A n c) E sz n cs] w := ⟨hw.below, hw.le, fun e he => by simp at he; subst he; exact h2, by simp, hw.others⟩
    have h4 : Reads C [.row (.slice A n c) E sz n cs] A cs := Reads.row (i := 0) rfl
    unfold Reads at h4
    exact h4 w h3
  unfold Reads
  exact h
end Go.Sx
namespace Go.Sx
open Go Go.RowKit
variable {C : Cx} {env : Env} {m : List Ent} {l : List Oper} {K : Env → List Ent → Prop} {S : List Ent} {fuel i j di dj Ti Tj : Nat} {done : List Nat} {oi oj : Oper} {ci cj : List Value}
/-- Two variables that may be made in either order. -/
theorem ExD.alloc2 (hi : l[i]? = some oi) (hj : l[j]? = some oj) (h2 : readyOk l done [i, j] = true) (h3 : nextOk l (i :: done) j = true) (h4 : nextOk l (j :: done) i = true) (hij : Nat.beq i j = false) (hdd : Nat.beq di dj = false)
    (hgi : wantB l env oi = some true) (hgj : wantB l env oj = some true) (hgi' : ∀ b, wantB l ((dj, .pointer (some ⟨b, 0, none⟩)) :: env) oi = some true) (hgj' : ∀ b, wantB l ((di, .pointer (some ⟨b, 0, none⟩)) :: env) oj = some true) (hS : S.Sublist m) (hai : Alc C oi di Ti ci) (haj : Alc C oj dj Tj cj)
    (h : ∀ bi bj, ExD C l S fuel (j :: i :: done) ((dj, .pointer (some ⟨bj, 0, none⟩)) :: (di, .pointer (some ⟨bi, 0, none⟩)) :: env) (.blk bj cj Tj :: .blk bi ci Ti :: m) K) : ExD C l S (fuel + 1 + 1) done env m K := by
  have hne : i ≠ j := fun e => by subst e; simp at hij
  have hne' : j ≠ i := fun e => hne e.symm
  have hdd' : Nat.beq dj di = false := by
    cases e : Nat.beq dj di with
    | false => rfl
    | true => rw [Nat.eq_of_beq_eq_true e] at hdd; simp at hdd
  refine ExD.ops h2 (by simp) fun k hk => ?_
  rcases List.mem_cons.1 hk with rfl | hk
  · exact ⟨oi, hi, hgi, hai _ _ _ fun bi => ⟨hS.cons _, ExD.op hj h3 (hgj' bi) (haj _ _ _ fun bj => ⟨(hS.cons _).cons _, h bi bj⟩)⟩⟩
  · obtain rfl : k = j := by simpa using hk
    exact ⟨oj, hj, hgj, haj _ _ _ fun bj => ⟨hS.cons _, ExD.op hi h4 (hgi' bj) (hai _ _ _ fun bi => ⟨(hS.cons _).cons _, ExD.swap hne hdd (List.Perm.swap _ _ _) (h bi bj)⟩)⟩⟩
end Go.Sx
namespace Go.Sx
open Go Go.RowKit
variable {C : Cx} {m : List Ent}
theorem layEnd {F : List Ent} {v E sz n cs xs} (hp : m.Perm (.row v E sz n cs :: .pile xs :: F)) : ∀ w, Holds C.base C.w0 m w → Holds C.base C.w0 (.pile (xs ++ [⟨v, E, sz, n, cs⟩]) :: F) w :=
  layHolds (ys := []) (by rw [List.append_nil]; exact hp)
theorem liftAt {F : List Ent} {r : Rw} {rs xs ys} (he : rs = xs ++ r :: ys) (hp : m.Perm (.pile rs :: F)) : ∀ w, Holds C.base C.w0 m w → Holds C.base C.w0 (.row r.v r.E r.sz r.n r.xs :: .pile (xs ++ ys) :: F) w := by
  subst he; exact liftHolds hp
end Go.Sx
namespace Go.Sx
open Go Go.RowKit
variable {C : Cx} {env : Env} {m : List Ent} {o : Oper}
theorem fr_shr40 {T x y T' p} (ho : o.op = .binOp .shr T x y T') (hx : ev env x = some (.int .u64 p)) (hy : ev env y = some (.int .u64 40)) : Free C o env m (.int .u64 (p / 1099511627776)) := by
  have := fr_shr (C := C) (m := m) ho hx hy (by omega)
  rwa [show (2 : Int) ^ min (40 : Int).toNat IntKind.u64.bits = 1099511627776 from rfl] at this
theorem wrapu_bd (e : Int) : 0 ≤ IntKind.u64.wrap e ∧ IntKind.u64.wrap e ≤ 18446744073709551615 := by rw [IntKind.wrap_u64]; omega
theorem fr_and255w {T x y T' e} (ho : o.op = .binOp .and T x y T') (hx : ev env x = some (.int .u64 (IntKind.u64.wrap e / 1099511627776))) (hy : ev env y = some (.int .u64 255)) : Free C o env m (.int .u64 (IntKind.u64.wrap e / 1099511627776 % 256)) := by
  have := fr_bits (C := C) (m := m) ho hx hy (.inl rfl)
  have hw := wrapu_bd e
  rwa [show bits .and .u64 (IntKind.u64.wrap e / 1099511627776) 255 = IntKind.u64.wrap e / 1099511627776 % 256 from bits_mask .u64 63 (by decide) (fun n h0 h1 => by rw [IntKind.wrap_u64]; omega) 8 (by decide) _ (by omega) (by omega)] at this
end Go.Sx
namespace Go.Sx
open Go Go.RowKit
variable {C : Cx} {env : Env} {m : List Ent} {l : List Oper} {K : Env → List Ent → Prop} {S : List Ent} {fuel i j di dj : Nat} {done : List Nat} {oi oj : Oper} {vi : Value}
/-- A free operation and a call, in either order. -/
theorem ExD.freeCall {X : Type} {v : X → Value} {n : X → List Ent} {H : X → Prop} (hi : l[i]? = some oi) (hj : l[j]? = some oj) (h2 : readyOk l done [i, j] = true ∨ readyOk l done [j, i] = true) (h3 : nextOk l (i :: done) j = true) (h4 : nextOk l (j :: done) i = true) (hij : Nat.beq i j = false) (hdd : Nat.beq di dj = false)
    (hgi : wantB l env oi = some true) (hgj : wantB l env oj = some true) (hgi' : ∀ x, wantB l ((dj, v x) :: env) oi = some true) (hgj' : wantB l ((di, vi) :: env) oj = some true) (hdi : oi.dst = some di) (hli : Nat.blt di C.n = true) (hS : S.Sublist m)
    (fi : Free C oi env m vi)
    (cj : ∀ K', (∀ x, H x → K' ((dj, v x) :: env) (n x)) → Op1 C oj env m K')
    (cj' : ∀ K', (∀ x, H x → K' ((dj, v x) :: (di, vi) :: env) (n x)) → Op1 C oj ((di, vi) :: env) m K')
    (hS' : ∀ x, S.Sublist (n x)) (fi' : ∀ x, H x → Free C oi ((dj, v x) :: env) (n x) vi)
    (h : ∀ x, H x → ExD C l S fuel (j :: i :: done) ((dj, v x) :: (di, vi) :: env) (n x) K) : ExD C l S (fuel + 1 + 1) done env m K := by
  have hne : i ≠ j := fun e => by subst e; simp at hij
  have key : ∀ k, k = i ∨ k = j → ∃ o, l[k]? = some o ∧ wantB l env o = some true ∧ Op1 C o env m (fun env m => S.Sublist m ∧ ExD C l S (fuel + 1) (k :: done) env m K) := by
    rintro k (rfl | rfl)
    · exact ⟨oi, hi, hgi, Op1.of_free fi hdi hli ⟨hS, ExD.op hj h3 hgj' (cj' _ fun x hx => ⟨hS' x, h x hx⟩)⟩⟩
    · exact ⟨oj, hj, hgj, cj _ fun x hx => ⟨hS' x, ExD.op hi h4 (hgi' x) (Op1.of_free (fi' x hx) hdi hli ⟨hS' x, ExD.swap hne hdd (List.Perm.refl _) (h x hx)⟩)⟩⟩
  rcases h2 with h2 | h2
  · exact ExD.ops h2 (by simp) fun k hk => key k (by simpa using hk)
  · exact ExD.ops h2 (by simp) fun k hk => key k (by have := hk; simp at this; omega)
end Go.Sx
namespace Go.Sx
open Go Go.RowKit
variable {C : Cx} {env env' : Env} {m : List Ent} {l : List Oper} {K : Env → List Ent → Prop} {S : List Ent} {fuel i j k di dj dk : Nat} {done done' : List Nat} {oi oj ok_ : Oper} {vi : Value}
theorem lst_perm {n : Nat} {d d' : List Nat} (h : d.Perm d') : lst n d = lst n d' := by
  unfold lst
  refine h.foldr_eq' (fun x _ y _ z => ?_) _
  by_cases e : x = y
  · subst e; rfl
  · exact (Array.setIfInBounds_comm _ _ e)
theorem ExD.rep (hd : done.Perm done') (he : ∀ t v, look env' t = some v → look env t = some v) (h : ExD C l S fuel done' env' m K) : ExD C l S fuel done env m K := by
  unfold ExD at h ⊢
  rw [lst_perm hd]
  intro a w hr hh
  exact h a w ⟨hr.def0, hr.size, fun t v ht => hr.at_ t v (he t v ht)⟩ hh
theorem look_swap {a b : Nat} {x y : Value} {e : Env} (h : Nat.beq a b = false) (t : Nat) : look ((a, x) :: (b, y) :: e) t = look ((b, y) :: (a, x) :: e) t := by
  simp only [look]
  cases e1 : Nat.beq a t with
  | true =>
    have := Nat.eq_of_beq_eq_true e1
    subst this
    have : Nat.beq b a = false := by
      cases e2 : Nat.beq b a with
      | false => rfl
      | true => rw [Nat.eq_of_beq_eq_true e2] at h; simp at h
    rw [this]; rfl
  | false => rfl
theorem look_cons {a : Nat} {x : Value} {e e' : Env} {t : Nat} (h : look e t = look e' t) : look ((a, x) :: e) t = look ((a, x) :: e') t := by simp only [look, h]
/-- The same, where an operation on what the call hands back may be taken before the free one. -/
theorem ExD.freeCall1 {X : Type} {v vk : X → Value} {n : X → List Ent} {H : X → Prop} (hi : l[i]? = some oi) (hj : l[j]? = some oj) (hk : l[k]? = some ok_) (h2 : readyOk l done [i, j] = true ∨ readyOk l done [j, i] = true) (h3 : nextOk l (i :: done) j = true) (h4 : nextOk l (k :: j :: done) i = true) (h5 : takeOk l (j :: done) k = true) (h6 : takeOk l (j :: i :: done) k = true) (hij : Nat.beq i j = false) (hdd : Nat.beq di dj = false) (hik : Nat.beq di dk = false)
    (hgi : wantB l env oi = some true) (hgj : wantB l env oj = some true) (hgi' : ∀ x, wantB l ((dk, vk x) :: (dj, v x) :: env) oi = some true) (hgj' : wantB l ((di, vi) :: env) oj = some true) (hgk : ∀ x, wantB l ((dj, v x) :: env) ok_ = some true) (hgk' : ∀ x, wantB l ((dj, v x) :: (di, vi) :: env) ok_ = some true) (hdi : oi.dst = some di) (hli : Nat.blt di C.n = true) (hdk : ok_.dst = some dk) (hlk : Nat.blt dk C.n = true) (hS : S.Sublist m)
    (fi : Free C oi env m vi)
    (cj : ∀ K', (∀ x, H x → K' ((dj, v x) :: env) (n x)) → Op1 C oj env m K')
    (cj' : ∀ K', (∀ x, H x → K' ((dj, v x) :: (di, vi) :: env) (n x)) → Op1 C oj ((di, vi) :: env) m K')
    (hS' : ∀ x, S.Sublist (n x)) (fk : ∀ x, H x → Free C ok_ ((dj, v x) :: env) S (vk x)) (fk' : ∀ x, H x → Free C ok_ ((dj, v x) :: (di, vi) :: env) S (vk x)) (fi' : ∀ x, H x → Free C oi ((dk, vk x) :: (dj, v x) :: env) (n x) vi)
    (h : ∀ x, H x → ExD C l S fuel (k :: j :: i :: done) ((dk, vk x) :: (dj, v x) :: (di, vi) :: env) (n x) K) : ExD C l S (fuel + 1 + 1 + 1) done env m K := by
  have key : ∀ q, q = i ∨ q = j → ∃ o, l[q]? = some o ∧ wantB l env o = some true ∧ Op1 C o env m (fun env m => S.Sublist m ∧ ExD C l S (fuel + 1 + 1) (q :: done) env m K) := by
    rintro q (rfl | rfl)
    · exact ⟨oi, hi, hgi, Op1.of_free fi hdi hli ⟨hS, ExD.op hj h3 hgj' (cj' _ fun x hx => ⟨hS' x, ExD.take hk h6 (fk' x hx) (hS' x) (hgk' x) hdk hlk (h x hx)⟩)⟩⟩
    · refine ⟨oj, hj, hgj, cj _ fun x hx => ⟨hS' x, ExD.take hk h5 (fk x hx) (hS' x) (hgk x) hdk hlk (ExD.op hi h4 (hgi' x) (Op1.of_free (fi' x hx) hdi hli ⟨hS' x, ?_⟩))⟩⟩
      refine ExD.rep ?_ (fun t u ht => ?_) (h x hx)
      · exact (List.Perm.swap _ _ _).trans (List.Perm.cons _ (List.Perm.swap _ _ _))
      · rw [look_swap hik, look_cons (look_swap hdd t)]; exact ht
  rcases h2 with h2 | h2
  · exact ExD.ops h2 (by simp) fun q hq => key q (by simpa using hq)
  · exact ExD.ops h2 (by simp) fun q hq => key q (by have := hq; simp at this; omega)
end Go.Sx
