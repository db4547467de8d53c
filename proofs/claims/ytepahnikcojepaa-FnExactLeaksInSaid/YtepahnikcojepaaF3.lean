/- Rows that are only read: laid on a pile, and taken off it. -/
import Derived.Test.YtepahnikcojepaaF2
namespace Go.Sx
open Go Go.RowKit
variable {C : Cx} {env : Env} {m m' : List Ent} {Q : Post} {l rest : List Oper} {K : Env → List Ent → Prop}
theorem Rw.apart_comm {r s : Rw} (h : r.apart s) : s.apart r := fun b hb hr => h b hr hb
theorem Holds.pile0 {base w0 w} (h : Holds base w0 m w) : Holds base w0 (.pile [] :: m) w := by
  refine ⟨h.below, h.le, fun e he => ?_, List.pairwise_cons.2 ⟨fun f hf b hb => ?_, h.apart⟩, h.others⟩
  · rcases List.mem_cons.1 he with rfl | he
    · exact ⟨fun r hr => (nomatch hr), List.Pairwise.nil⟩
    · exact h.all e he
  · obtain ⟨r, hr, _⟩ := hb; cases hr
theorem Holds.lay {base w0 w} {r : Rw} {xs ys : List Rw} (h : Holds base w0 (.row r.v r.E r.sz r.n r.xs :: .pile (xs ++ ys) :: m) w) : Holds base w0 (.pile (xs ++ r :: ys) :: m) w := by
  have hr := h.all _ (List.mem_cons_self ..)
  have hp := h.all (.pile (xs ++ ys)) (by simp)
  obtain ⟨ha1, ha⟩ := List.pairwise_cons.1 h.apart
  obtain ⟨ha2, ha3⟩ := List.pairwise_cons.1 ha
  refine ⟨h.below, h.le, fun e he => ?_, List.pairwise_cons.2 ⟨fun f hf b hb => ?_, ha3⟩, h.others⟩
  · rcases List.mem_cons.1 he with rfl | he
    · refine ⟨fun s hs => ?_, ?_⟩
      · rcases List.mem_append.1 hs with hs | hs
        · exact hp.1 s (List.mem_append.2 (.inl hs))
        · rcases List.mem_cons.1 hs with rfl | hs
          · exact hr
          · exact hp.1 s (List.mem_append.2 (.inr hs))
      · refine (List.perm_middle.pairwise_iff fun h => Rw.apart_comm h).2 (List.pairwise_cons.2 ⟨fun s hs b hb hb2 => ?_, hp.2⟩)
        exact ha1 (.pile (xs ++ ys)) (by simp) b hb ⟨s, hs, hb2⟩
    · exact h.all e (by simp [he])
  · obtain ⟨s, hs, hb⟩ := hb
    rcases List.mem_append.1 hs with hs | hs
    · exact ha2 f hf b ⟨s, List.mem_append.2 (.inl hs), hb⟩
    · rcases List.mem_cons.1 hs with rfl | hs
      · exact ha1 f (by simp [hf]) b hb
      · exact ha2 f hf b ⟨s, List.mem_append.2 (.inr hs), hb⟩
theorem Holds.lift {base w0 w} {r : Rw} {xs ys : List Rw} (h : Holds base w0 (.pile (xs ++ r :: ys) :: m) w) : Holds base w0 (.row r.v r.E r.sz r.n r.xs :: .pile (xs ++ ys) :: m) w := by
  have hp := h.all (.pile (xs ++ r :: ys)) (by simp)
  obtain ⟨ha1, ha⟩ := List.pairwise_cons.1 h.apart
  obtain ⟨hq1, hq2⟩ := List.pairwise_cons.1 ((List.perm_middle.pairwise_iff fun h => Rw.apart_comm h).1 hp.2)
  have hin : ∀ s, s ∈ xs ++ ys → s ∈ xs ++ r :: ys := fun s hs => by
    rcases List.mem_append.1 hs with hs | hs
    · exact List.mem_append.2 (.inl hs)
    · exact List.mem_append.2 (.inr (List.mem_cons_of_mem _ hs))
  have hr : r ∈ xs ++ r :: ys := List.mem_append.2 (.inr (List.mem_cons_self ..))
  refine ⟨h.below, h.le, fun e he => ?_, List.pairwise_cons.2 ⟨fun f hf b hb => ?_, List.pairwise_cons.2 ⟨fun f hf b hb => ?_, ha⟩⟩, h.others⟩
  · rcases List.mem_cons.1 he with rfl | he
    · exact hp.1 r hr
    · rcases List.mem_cons.1 he with rfl | he
      · exact ⟨fun s hs => hp.1 s (hin s hs), hq2⟩
      · exact h.all e (by simp [he])
  · rcases List.mem_cons.1 hf with rfl | hf
    · rintro ⟨s, hs, hb2⟩
      exact hq1 s hs b hb hb2
    · exact ha1 f hf b ⟨r, hr, hb⟩
  · obtain ⟨s, hs, hb⟩ := hb
    exact ha1 f hf b ⟨s, hin s hs, hb⟩
theorem Ex.conv {c : Code} (hc : ∀ w, Holds C.base C.w0 m w → Holds C.base C.w0 m' w) (k : Ex C c env m' Q) : Ex C c env m Q := fun a w hr hh => k a w hr (hc w hh)
theorem ExL.conv (hc : ∀ w, Holds C.base C.w0 m w → Holds C.base C.w0 m' w) (k : ExL C l rest env m' K) : ExL C l rest env m K := fun a w hr hh => k a w hr (hc w hh)
theorem ExD.conv {S fuel done} (hc : ∀ w, Holds C.base C.w0 m w → Holds C.base C.w0 m' w) (k : ExD C l S fuel done env m' K) : ExD C l S fuel done env m K := fun a w hr hh => k a w hr (hc w hh)
/-- An empty pile. -/
theorem Ex.pile0 {c : Code} (k : Ex C c env (.pile [] :: m) Q) : Ex C c env m Q := Ex.conv (fun _ h => h.pile0) k
theorem ExL.pile0 (k : ExL C l rest env (.pile [] :: m) K) : ExL C l rest env m K := ExL.conv (fun _ h => h.pile0) k
theorem layHolds {F : List Ent} {v E sz n cs xs ys} (hp : m.Perm (.row v E sz n cs :: .pile (xs ++ ys) :: F)) : ∀ w, Holds C.base C.w0 m w → Holds C.base C.w0 (.pile (xs ++ ⟨v, E, sz, n, cs⟩ :: ys) :: F) w :=
  fun _ h => Holds.lay (r := ⟨v, E, sz, n, cs⟩) (h.perm hp)
theorem liftHolds {F : List Ent} {r : Rw} {xs ys} (hp : m.Perm (.pile (xs ++ r :: ys) :: F)) : ∀ w, Holds C.base C.w0 m w → Holds C.base C.w0 (.row r.v r.E r.sz r.n r.xs :: .pile (xs ++ ys) :: F) w :=
  fun _ h => Holds.lift (h.perm hp)
theorem Reads.pile {i : Nat} {rs : List Rw} {A n c E sz cs} (hi : m[i]? = some (.pile rs)) (hr : (⟨.slice A n c, E, sz, n, cs⟩ : Rw) ∈ rs) : Reads C m A cs := by
  have h : ∀ w, Holds C.base C.w0 m w → Rd w A cs := fun w hw => by
    have h1 := hw.all _ (List.mem_of_getElem? hi)
    have h2 : Ent.holds C.base w (.row (.slice A n c) E sz n cs) := h1.1 _ hr
    have h3 : Holds C.base C.w0 [.row (.slice A n c) E sz n cs] w := ⟨hw.below, hw.le, fun e he => by simp at he; subst he; exact h2, by simp, hw.others⟩
    have h4 : Reads C [.row (.slice A n c) E sz n cs] A cs := Reads.row (i := 0) rfl
    unfold Reads at h4
    exact h4 w h3
  unfold Reads
  exact h
end Go.Sx
namespace Go.Sx
open Go Go.RowKit
variable {C : Cx} {env : Env} {m : List Ent} {l : List Oper} {K : Env → List Ent → Prop} {S : List Ent} {fuel i j di dj Ti Tj : Nat} {done : List Nat} {oi oj : Oper} {ci cj : List Value}
/-- Two variables that may be made in either order. -/
theorem ExD.alloc2 (hi : l[i]? = some oi) (hj : l[j]? = some oj) (h2 : readyOk l done [i, j] = true) (h3 : nextOk l (i :: done) j = true) (h4 : nextOk l (j :: done) i = true) (hij : Nat.beq i j = false) (hdd : Nat.beq di dj = false)
    (hgi : wantB l env oi = some true) (hgj : wantB l env oj = some true) (hgi' : ∀ b, wantB l ((dj, .pointer (some ⟨b, 0, none⟩)) :: env) oi = some true) (hgj' : ∀ b, wantB l ((di, .pointer (some ⟨b, 0, none⟩)) :: env) oj = some true) (hS : S.Sublist m) (hai : Alc C oi di Ti ci) (haj : Alc C oj dj Tj cj)
    (h : ∀ bi bj, ExD C l S fuel (j :: i :: done) ((dj, .pointer (some ⟨bj, 0, none⟩)) :: (di, .pointer (some ⟨bi, 0, none⟩)) :: env) (.blk bj cj Tj :: .blk bi ci Ti :: m) K) : ExD C l S (fuel + 1 + 1) done env m K := by
  have hne : i ≠ j := fun e => by subst e; simp at hij
  have hne' : j ≠ i := fun e => hne e.symm
  have hdd' : Nat.beq dj di = false := by
    cases e : Nat.beq dj di with
    | false => rfl
    | true => rw [Nat.eq_of_beq_eq_true e] at hdd; simp at hdd
  refine ExD.ops h2 (by simp) fun k hk => ?_
  rcases List.mem_cons.1 hk with rfl | hk
  · exact ⟨oi, hi, hgi, hai _ _ _ fun bi => ⟨hS.cons _, ExD.op hj h3 (hgj' bi) (haj _ _ _ fun bj => ⟨(hS.cons _).cons _, h bi bj⟩)⟩⟩
  · obtain rfl : k = j := by simpa using hk
    exact ⟨oj, hj, hgj, haj _ _ _ fun bj => ⟨hS.cons _, ExD.op hi h4 (hgi' bj) (hai _ _ _ fun bi => ⟨(hS.cons _).cons _, ExD.swap hne hdd (List.Perm.swap _ _ _) (h bi bj)⟩)⟩⟩
end Go.Sx
namespace Go.Sx
open Go Go.RowKit
variable {C : Cx} {m : List Ent}
theorem layEnd {F : List Ent} {v E sz n cs xs} (hp : m.Perm (.row v E sz n cs :: .pile xs :: F)) : ∀ w, Holds C.base C.w0 m w → Holds C.base C.w0 (.pile (xs ++ [⟨v, E, sz, n, cs⟩]) :: F) w :=
  layHolds (ys := []) (by rw [List.append_nil]; exact hp)
theorem liftAt {F : List Ent} {r : Rw} {rs xs ys} (he : rs = xs ++ r :: ys) (hp : m.Perm (.pile rs :: F)) : ∀ w, Holds C.base C.w0 m w → Holds C.base C.w0 (.row r.v r.E r.sz r.n r.xs :: .pile (xs ++ ys) :: F) w := by
  subst he; exact liftHolds hp
end Go.Sx
