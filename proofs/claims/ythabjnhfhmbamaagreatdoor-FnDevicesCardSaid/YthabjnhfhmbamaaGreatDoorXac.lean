/- Several texts, one behind the other. -/
import Derived.Test.YthabjnhfhmbamaaGreatDoorXaa
import Derived.Test.YthabjnhfhmbamaaGreatDoorXab
/- Journals that are drawn, in plain numbers. -/
set_option linter.unusedVariables false
set_option linter.unusedSimpArgs false
namespace Go.W
open Go Go.Sx
/-- A device as it is drawn. -/
def DrDev (d : VDev) : Prop := OkDev d ∧ validDev d = true ∧ d.stack.length ≤ 4 ∧ 0 ≤ d.tickets ∧ d.tickets ≤ 19
/-- An act as it is drawn for a device with this stack. -/
def OkJ (s : List Int) (a : VAct) : Prop := ((a.kind = 1 ∨ a.kind = 2) ∧ 0 ≤ a.n ∧ a.n ≤ 19) ∨ (a.kind = 3 ∧ -1 ≤ a.n ∧ a.n ≤ 28 ∧ a.n ≤ size s - 1) ∨ ((a.kind = 4 ∨ a.kind = 5) ∧ a.n = 0)
def DrActs (s : List Int) (l : List VAct) : Prop := l.length ≤ 9 ∧ ∀ i, i < l.length → OkJ s (l.getD i zA)
theorem OkJ.valid {s : List Int} {a : VAct} (h : OkJ s a) : validAct a = true := by
  unfold validAct; rw [decide_eq_true_iff]; unfold OkJ at h; omega
theorem OkJ.ok {s : List Int} {a : VAct} (h : OkJ s a) : OkAct a := by
  unfold OkAct I64; unfold OkJ at h; omega
theorem pulse_le {d : VDev} {n st : Int} (hO : DevOk d) (hn : 0 ≤ n) : 0 ≤ (pulseV d n st).2 ∧ (pulseV d n st).2 ≤ n ∧ (pulseV d n st).1.tickets = d.tickets := by
  have hu := until_ge hO st
  unfold pulseV
  split
  · exact ⟨hn, Int.le_refl _, rfl⟩
  · split
    · rename_i h1 h2
      refine ⟨?_, ?_, rfl⟩
      · show 0 ≤ n - untilV d st; omega
      · show n - untilV d st ≤ n; omega
    · exact ⟨Int.le_refl _, hn, rfl⟩
theorem do_j {d : VDev} {a : VAct} {s : List Int} (hk : OkDev d) (hv : validDev d = true) (hs : d.stack = s) (ht : d.tickets ≤ 1000) (h : OkJ s a) :
    (doV d a).2.2 = 0 ∧ (0 ≤ (doV d a).2.1 ∧ (doV d a).2.1 ≤ 19) ∧ (a.kind ≠ 3 → (doV d a).2.1 ≤ a.n) ∧ (2 < a.kind → (doV d a).2.1 = 0) ∧ (doV d a).1.tickets ≤ d.tickets + 1 := by
  have hO := devOk hk.2.2.1 hv
  rcases h with ⟨h1 | h1, h2⟩ | ⟨h1, h2⟩ | ⟨h1 | h1, h2⟩
  · have := pulse_le (st := 1) hO h2.1
    rw [do_1 h1]; exact ⟨rfl, ⟨this.1, Int.le_trans this.2.1 h2.2⟩, fun _ => this.2.1, fun h => by omega, by rw [this.2.2]; omega⟩
  · have := pulse_le (st := -1) hO h2.1
    rw [do_2 h1]; exact ⟨rfl, ⟨this.1, Int.le_trans this.2.1 h2.2⟩, fun _ => this.2.1, fun h => by omega, by rw [this.2.2]; omega⟩
  · rw [do_3 h1 (by rw [hs]; omega)]; exact ⟨rfl, ⟨by show (0 : Int) ≤ 0; omega, by show (0 : Int) ≤ 19; omega⟩, fun h => absurd h1 h, fun _ => rfl, by show d.tickets ≤ d.tickets + 1; omega⟩
  · rw [do_4 h1]; exact ⟨rfl, ⟨by show (0 : Int) ≤ 0; omega, by show (0 : Int) ≤ 19; omega⟩, fun _ => by show (0 : Int) ≤ a.n; omega, fun _ => rfl, by show d.tickets ≤ d.tickets + 1; omega⟩
  · rw [do_5 h1 (by omega)]; exact ⟨rfl, ⟨by show (0 : Int) ≤ 0; omega, by show (0 : Int) ≤ 19; omega⟩, fun _ => by show (0 : Int) ≤ a.n; omega, fun _ => rfl, by show d.tickets + 1 ≤ d.tickets + 1; omega⟩
theorem run_j {d : VDev} {l : List VAct} (hk : OkDev d) (hv : validDev d = true) (ht : d.tickets ≤ 500) (hn : l.length ≤ 60) (h : ∀ i, i < l.length → OkJ d.stack (l.getD i zA)) : ∀ k, k ≤ l.length →
    runC d l k = 0 ∧ (0 ≤ lostD d l k ∧ lostD d l k ≤ 19 * k) ∧ (runD d l k).tickets ≤ d.tickets + k
  | 0, _ => ⟨rfl, by simp [lostD], by simp [runD]⟩
  | k + 1, hkl => by
    obtain ⟨h1, h2, h3⟩ := run_j hk hv ht hn h k (by omega)
    have h4 := run_ok hk hv (fun i hi => (h i hi).valid) k (by omega)
    have h5 := do_j h4.1 h4.2 (runD_stack d l k) (by omega) (h k (by omega))
    refine ⟨by rw [rc_go h1]; exact h5.1, by rw [lostD]; omega, ?_⟩
    rw [runD]; have := h5.2.2.2.2; omega
/-- A run of acts that can be done. -/
structure RunOk (d : VDev) (l : List VAct) : Prop where
  rv : runV d l = (runD d l l.length, notesL d l l.length, ticsL d l l.length, lostD d l l.length, 0)
  code : ∀ k, k ≤ l.length → runC d l k = 0
theorem run_of {d : VDev} {l : List VAct} (hv : validDev d = true) (hn : l.length ≤ 60) (ha : ∀ i, i < l.length → validAct (l.getD i zA) = true) (hc : ∀ k, k ≤ l.length → runC d l k = 0) (hl : lostD d l l.length ≤ 1000000000000) : RunOk d l := by
  have e : ¬ askV d l ≠ 0 := by
    rw [ask_on hv, ← af_ok (l := l) (any_bad_f (k := l.length) (Nat.lt_irrefl _) ha) (by omega)]; decide
  exact ⟨rv_ok (k := l.length) e rfl (hc _ (Nat.le_refl _)) (by omega), hc⟩
theorem run_drawn {d : VDev} {l : List VAct} (h : DrDev d) (hl : DrActs d.stack l) : RunOk d l := by
  obtain ⟨hk, hv, _, ht⟩ := h
  have hn := hl.1
  have hj := run_j hk hv (by omega) (by omega) hl.2
  refine run_of hv (by omega) (fun i hi => (hl.2 i hi).valid) (fun k hkl => (hj k hkl).1) ?_
  have := (hj l.length (Nat.le_refl _)).2.1; omega
/-- What the law asks of each note. -/
theorem note_ok {d : VDev} {l : List VAct} (h : DrDev d) (hl : DrActs d.stack l) {i : Nat} (hi : i < l.length) :
    ((runV d l).2.1.getD i zN).act = l.getD i zA ∧ 0 ≤ ((runV d l).2.1.getD i zN).lost ∧ ((runV d l).2.1.getD i zN).lost ≤ 19 ∧ ((l.getD i zA).kind ≠ 3 → ((runV d l).2.1.getD i zN).lost ≤ (l.getD i zA).n) ∧ (2 < (l.getD i zA).kind → ((runV d l).2.1.getD i zN).lost = 0) := by
  have hR := run_drawn h hl
  obtain ⟨hk, hv, _, ht⟩ := h
  have hn := hl.1
  have hj := (run_j hk hv (by omega) (by omega) hl.2 i (by omega)).2.2
  have h4 := run_ok hk hv (fun i hi => (hl.2 i hi).valid) i (by omega)
  have h5 := do_j h4.1 h4.2 (runD_stack d l i) (by omega) (hl.2 i hi)
  rw [hR.rv]
  show ((notesL d l l.length).getD i zN).act = _ ∧ 0 ≤ ((notesL d l l.length).getD i zN).lost ∧ ((notesL d l l.length).getD i zN).lost ≤ 19 ∧ (_ → ((notesL d l l.length).getD i zN).lost ≤ _) ∧ (_ → ((notesL d l l.length).getD i zN).lost = 0)
  rw [notesL_at d l _ i hi]
  exact ⟨rfl, h5.2.1.1, h5.2.1.2, h5.2.2.1, h5.2.2.2.1⟩
theorem notes_len {d : VDev} {l : List VAct} (hR : RunOk d l) : (runV d l).2.1.length = l.length := by rw [hR.rv]; exact notesL_len d l _
/-- A list of notes of which the first are those of a run. -/
theorem nowN_run {d : VDev} {l : List VAct} {ns : List VNote} : ∀ {k : Nat}, (∀ i, i < k → (ns.getD i zN).act = l.getD i zA) → nowN d ns k = runD d l k
  | 0, _ => rfl
  | k + 1, h => by rw [nowN, runD, nowN_run (fun i hi => h i (by omega)), h k (by omega)]
theorem badN_run {d : VDev} {l : List VAct} {ns : List VNote} {k : Nat} (hv : validAct (l.getD k zA) = true) (hc : (doV (runD d l k) (l.getD k zA)).2.2 = 0) (h : ∀ i, i < k → (ns.getD i zN).act = l.getD i zA) (hk : ns.getD k zN = ⟨l.getD k zA, (doV (runD d l k) (l.getD k zA)).1.shows, (doV (runD d l k) (l.getD k zA)).2.1⟩) : badN d ns k = false := by
  refine badN_f ?_
  rw [nowN_run h, hk]
  rintro (h1 | h1 | h1 | h1)
  · rw [hv] at h1; cases h1
  · exact h1 hc
  · exact h1 rfl
  · exact h1 rfl
theorem doC0 {d : VDev} {l : List VAct} (hR : RunOk d l) {k : Nat} (hk : k < l.length) : (doV (runD d l k) (l.getD k zA)).2.2 = 0 := by
  have := hR.code (k + 1) (by omega)
  rwa [rc_go (hR.code k (by omega))] at this
theorem fw_run {d : VDev} {l : List VAct} (hv : validDev d = true) (hn : l.length ≤ 60) (ha : ∀ i, i < l.length → validAct (l.getD i zA) = true) (hR : RunOk d l) : firstWrong d (runV d l).2.1 = (0, 6) := by
  have hlen := notes_len hR
  rw [fw_on hv (by omega), firstB_none (k := l.length) (by omega) ?_]; rfl
  intro i hi
  have hc := doC0 hR hi
  rw [hR.rv]
  exact badN_run (ha i hi) hc (fun j hj => by show ((notesL d l l.length).getD j zN).act = _; rw [notesL_at d l _ j (by omega)]) (notesL_at d l _ i hi)
/-- A note that is changed. -/
def bent (ns : List VNote) (k : Nat) : List VNote := ns.set k ⟨(ns.getD k zN).act, (ns.getD k zN).shows, (ns.getD k zN).lost + 1⟩
theorem bent_len (ns : List VNote) (k : Nat) : (bent ns k).length = ns.length := by simp [bent]
theorem bent_at {ns : List VNote} {k : Nat} (hk : k < ns.length) (i : Nat) : (bent ns k).getD i zN = if i = k then ⟨(ns.getD k zN).act, (ns.getD k zN).shows, (ns.getD k zN).lost + 1⟩ else ns.getD i zN := by
  unfold bent
  simp only [List.getD, List.getElem?_set]
  by_cases h : k = i
  · subst h; simp [hk]
  · simp [h, Ne.symm h]
theorem fw_bent {d : VDev} {l : List VAct} (hv : validDev d = true) (hn : l.length ≤ 60) (ha : ∀ i, i < l.length → validAct (l.getD i zA) = true) (hR : RunOk d l) {k : Nat} (hk : k < l.length) : firstWrong d (bent (runV d l).2.1 k) = ((k : Int), 0) := by
  have hlen := notes_len hR
  have hat := bent_at (ns := (runV d l).2.1) (k := k) (by omega)
  have hb := bent_len (runV d l).2.1 k
  have hnt : ∀ i, i < l.length → (runV d l).2.1.getD i zN = ⟨l.getD i zA, (doV (runD d l i) (l.getD i zA)).1.shows, (doV (runD d l i) (l.getD i zA)).2.1⟩ := fun i hi => by rw [hR.rv]; exact notesL_at d l _ i hi
  have hact : ∀ i, i < l.length → ((bent (runV d l).2.1 k).getD i zN).act = l.getD i zA := fun i hi => by
    rw [hat i]; split
    · rename_i h; subst h; show ((runV d l).2.1.getD i zN).act = _; rw [hnt i hi]
    · rw [hnt i hi]
  rw [fw_on hv (by omega), firstB_hit (k := k) (by omega) ?_ ?_]; rfl
  · intro i hi
    exact badN_run (ha i (by omega)) (doC0 hR (by omega)) (fun j hj => hact j (by omega)) (by rw [hat i, if_neg (by omega)]; exact hnt i (by omega))
  · refine badN_t (.inr (.inr (.inl ?_)))
    rw [nowN_run (fun j hj => hact j (by omega)), hact k hk, hat k, if_pos rfl, hnt k hk]
    show (doV (runD d l k) (l.getD k zA)).2.1 ≠ (doV (runD d l k) (l.getD k zA)).2.1 + 1
    omega
end Go.W
namespace Go.W
open Go Go.Sx
/-! batches -/
theorem getD_l {α : Type} {l t : List α} {d : α} {i : Nat} (h : i < l.length) : (l ++ t).getD i d = l.getD i d := by
  simp only [List.getD]; rw [List.getElem?_append_left h]
theorem getD_r {α : Type} {l t : List α} {d : α} {i n : Nat} (h : l.length = n) : (l ++ t).getD (n + i) d = t.getD i d := by
  subst h; simp only [List.getD]; rw [List.getElem?_append_right (by omega)]; simp
theorem pre_D {d : VDev} {l t : List VAct} : ∀ {k : Nat}, k ≤ l.length → runD d (l ++ t) k = runD d l k
  | 0, _ => rfl
  | k + 1, h => by rw [runD, runD, pre_D (by omega), getD_l (by omega)]
theorem pre_L {d : VDev} {l t : List VAct} : ∀ {k : Nat}, k ≤ l.length → lostD d (l ++ t) k = lostD d l k
  | 0, _ => rfl
  | k + 1, h => by rw [lostD, lostD, pre_D (by omega), pre_L (by omega), getD_l (by omega)]
theorem pre_C {d : VDev} {l t : List VAct} : ∀ {k : Nat}, k ≤ l.length → runC d (l ++ t) k = runC d l k
  | 0, _ => rfl
  | k + 1, h => by rw [runC, runC, pre_D (by omega), pre_C (by omega), getD_l (by omega)]
theorem pre_T {d : VDev} {l t : List VAct} : ∀ {k : Nat}, k ≤ l.length → ticsL d (l ++ t) k = ticsL d l k
  | 0, _ => rfl
  | k + 1, h => by rw [ticsL, ticsL, pre_D (by omega), pre_T (by omega), getD_l (by omega)]
/-- A ticket of a batch. -/
def batchT (s : List Int) (n : Int) (i : Nat) : VTic := ⟨(i : Int) + 1, addD s zDig n, check ((i : Int) + 1) (addD s zDig n).l⟩
theorem batch_run {s : List Int} {n : Int} (hs : Stk s) (hn : 1 ≤ n ∧ n ≤ prod s - 1) : ∀ k : Nat, k ≤ 1000 →
    runD ⟨s, zDig, -1, false, 0⟩ (batchL n k) (1 + 4 * k) = ⟨s, zDig, if k = 0 then -1 else n, false, k⟩ ∧ lostD ⟨s, zDig, -1, false, 0⟩ (batchL n k) (1 + 4 * k) = 0 ∧ runC ⟨s, zDig, -1, false, 0⟩ (batchL n k) (1 + 4 * k) = 0
      ∧ ticsL ⟨s, zDig, -1, false, 0⟩ (batchL n k) (1 + 4 * k) = (List.range k).map (batchT s n)
  | 0, _ => by
    have e := do_4 (d := ⟨s, zDig, -1, false, 0⟩) (a := ⟨4, 0⟩) rfl
    refine ⟨?_, ?_, ?_, ?_⟩
    · show (doV ⟨s, zDig, -1, false, 0⟩ ⟨4, 0⟩).1 = _; rw [e]; simp
    · show 0 + (doV ⟨s, zDig, -1, false, 0⟩ ⟨4, 0⟩).2.1 = 0; rw [e]; rfl
    · rw [show 1 + 4 * 0 = 0 + 1 from rfl, rc_go rfl]; show (doV ⟨s, zDig, -1, false, 0⟩ ⟨4, 0⟩).2.2 = 0; rw [e]
    · rw [show 1 + 4 * 0 = 0 + 1 from rfl, tl_n (by show ¬ (4 : Int) = 5; decide)]; rfl
  | k + 1, hk => by
    obtain ⟨h1, h2, h3, h4⟩ := batch_run hs hn k (by omega)
    have hlen := batchL_len n k
    generalize hd0 : (⟨s, zDig, -1, false, 0⟩ : VDev) = d0 at h1 h2 h3 h4 ⊢
    have hz : size s = prod s := hs.size_
    have hv0 : val s zDig.l = 0 := val_zero hs
    have q0 : (batchL n k ++ [(⟨3, n⟩ : VAct), ⟨1, n⟩, ⟨5, 0⟩, ⟨4, 0⟩]).getD (1 + 4 * k) zA = ⟨3, n⟩ := getD_r (i := 0) hlen
    have q1 : (batchL n k ++ [(⟨3, n⟩ : VAct), ⟨1, n⟩, ⟨5, 0⟩, ⟨4, 0⟩]).getD (1 + 4 * k + 1) zA = ⟨1, n⟩ := getD_r (i := 1) hlen
    have q2 : (batchL n k ++ [(⟨3, n⟩ : VAct), ⟨1, n⟩, ⟨5, 0⟩, ⟨4, 0⟩]).getD (1 + 4 * k + 2) zA = ⟨5, 0⟩ := getD_r (i := 2) hlen
    have q3 : (batchL n k ++ [(⟨3, n⟩ : VAct), ⟨1, n⟩, ⟨5, 0⟩, ⟨4, 0⟩]).getD (1 + 4 * k + 3) zA = ⟨4, 0⟩ := getD_r (i := 3) hlen
    -- what each act does
    have e0 : doV ⟨s, zDig, if k = 0 then -1 else n, false, k⟩ ⟨3, n⟩ = (⟨s, zDig, n, false, k⟩, 0, 0) := by
      rw [do_3 rfl (by show ¬ (n ≠ -1 ∧ ¬ (0 ≤ n ∧ n ≤ size s - 1)); omega)]
      have : decide (n = VDev.v ⟨s, zDig, if k = 0 then -1 else n, false, k⟩) = false := by rw [decide_eq_false_iff_not]; show ¬ n = val s zDig.l; omega
      show ((⟨s, zDig, n, decide (n = VDev.v ⟨s, zDig, if k = 0 then -1 else n, false, k⟩), k⟩ : VDev), (0 : Int), (0 : Int)) = _
      rw [this]
    have hu : untilV ⟨s, zDig, n, false, k⟩ 1 = n := by
      unfold untilV
      show until1 (1 * (n - val s zDig.l)) (prod s) = n
      rw [hv0, Int.sub_zero, Int.one_mul, until_big (by omega) (by omega) (by omega)]
    have e1 : doV ⟨s, zDig, n, false, k⟩ ⟨1, n⟩ = (⟨s, addD s zDig n, n, true, k⟩, 0, 0) := by
      rw [do_1 rfl]
      show ((pulseV ⟨s, zDig, n, false, k⟩ n 1).1, (pulseV ⟨s, zDig, n, false, k⟩ n 1).2, 0) = _
      rw [pv_hit rfl ⟨by show n ≠ -1; omega, by rw [hu]; exact Int.le_refl _⟩, hu]
      show ((⟨s, addD s zDig (1 * n), n, true, k⟩ : VDev), n - n, (0 : Int)) = _
      rw [Int.one_mul, Int.sub_self]
    have e2 : doV ⟨s, addD s zDig n, n, true, k⟩ ⟨5, 0⟩ = (⟨s, addD s zDig n, n, true, (k : Int) + 1⟩, 0, 0) := do_5 rfl (by show ¬ (k : Int) = 1000000; omega)
    have e3 : doV ⟨s, addD s zDig n, n, true, (k : Int) + 1⟩ ⟨4, 0⟩ = (⟨s, zDig, n, false, (k : Int) + 1⟩, 0, 0) := by
      rw [do_4 rfl]
      show ((⟨s, zDig, n, decide (n = 0), (k : Int) + 1⟩ : VDev), (0 : Int), (0 : Int)) = _
      rw [show decide (n = 0) = false from by rw [decide_eq_false_iff_not]; omega]
    rw [batchL]
    generalize hL : batchL n k ++ [(⟨3, n⟩ : VAct), ⟨1, n⟩, ⟨5, 0⟩, ⟨4, 0⟩] = L at q0 q1 q2 q3 ⊢
    have r0 : runD d0 L (1 + 4 * k) = ⟨s, zDig, if k = 0 then -1 else n, false, k⟩ := by rw [← hL, pre_D (by omega), h1]
    have r1 : runD d0 L (1 + 4 * k + 1) = ⟨s, zDig, n, false, k⟩ := by rw [runD, r0, q0, e0]
    have r2 : runD d0 L (1 + 4 * k + 2) = ⟨s, addD s zDig n, n, true, k⟩ := by rw [show 1 + 4 * k + 2 = (1 + 4 * k + 1) + 1 from rfl, runD, r1, q1, e1]
    have r3 : runD d0 L (1 + 4 * k + 3) = ⟨s, addD s zDig n, n, true, (k : Int) + 1⟩ := by rw [show 1 + 4 * k + 3 = (1 + 4 * k + 2) + 1 from rfl, runD, r2, q2, e2]
    have r4 : runD d0 L (1 + 4 * k + 4) = ⟨s, zDig, n, false, (k : Int) + 1⟩ := by rw [show 1 + 4 * k + 4 = (1 + 4 * k + 3) + 1 from rfl, runD, r3, q3, e3]
    have l0 : lostD d0 L (1 + 4 * k) = 0 := by rw [← hL, pre_L (by omega), h2]
    have c0 : runC d0 L (1 + 4 * k) = 0 := by rw [← hL, pre_C (by omega), h3]
    have t0 : ticsL d0 L (1 + 4 * k) = (List.range k).map (batchT s n) := by rw [← hL, pre_T (by omega), h4]
    have c1 : runC d0 L (1 + 4 * k + 1) = 0 := by rw [rc_go c0, r0, q0, e0]
    have c2 : runC d0 L (1 + 4 * k + 2) = 0 := by rw [show 1 + 4 * k + 2 = (1 + 4 * k + 1) + 1 from rfl, rc_go c1, r1, q1, e1]
    have c3 : runC d0 L (1 + 4 * k + 3) = 0 := by rw [show 1 + 4 * k + 3 = (1 + 4 * k + 2) + 1 from rfl, rc_go c2, r2, q2, e2]
    have c4 : runC d0 L (1 + 4 * k + 4) = 0 := by rw [show 1 + 4 * k + 4 = (1 + 4 * k + 3) + 1 from rfl, rc_go c3, r3, q3, e3]
    have l1 : lostD d0 L (1 + 4 * k + 1) = 0 := by rw [lostD, l0, r0, q0, e0]; rfl
    have l2 : lostD d0 L (1 + 4 * k + 2) = 0 := by rw [show 1 + 4 * k + 2 = (1 + 4 * k + 1) + 1 from rfl, lostD, l1, r1, q1, e1]; rfl
    have l3 : lostD d0 L (1 + 4 * k + 3) = 0 := by rw [show 1 + 4 * k + 3 = (1 + 4 * k + 2) + 1 from rfl, lostD, l2, r2, q2, e2]; rfl
    have l4 : lostD d0 L (1 + 4 * k + 4) = 0 := by rw [show 1 + 4 * k + 4 = (1 + 4 * k + 3) + 1 from rfl, lostD, l3, r3, q3, e3]; rfl
    have t1 : ticsL d0 L (1 + 4 * k + 1) = (List.range k).map (batchT s n) := by rw [tl_n (by rw [q0]; show ¬ (3 : Int) = 5; decide), t0]
    have t2 : ticsL d0 L (1 + 4 * k + 2) = (List.range k).map (batchT s n) := by rw [show 1 + 4 * k + 2 = (1 + 4 * k + 1) + 1 from rfl, tl_n (by rw [q1]; show ¬ (1 : Int) = 5; decide), t1]
    have t3 : ticsL d0 L (1 + 4 * k + 3) = (List.range (k + 1)).map (batchT s n) := by
      rw [show 1 + 4 * k + 3 = (1 + 4 * k + 2) + 1 from rfl, tl_5 (by rw [q2]), t2, r2, q2, e2, List.range_succ, List.map_append]; rfl
    have t4 : ticsL d0 L (1 + 4 * k + 4) = (List.range (k + 1)).map (batchT s n) := by rw [show 1 + 4 * k + 4 = (1 + 4 * k + 3) + 1 from rfl, tl_n (by rw [q3]; decide), t3]
    rw [show 1 + 4 * (k + 1) = 1 + 4 * k + 4 by omega]
    refine ⟨?_, l4, c4, t4⟩
    rw [r4, if_neg (by omega)]; push_cast; rfl
end Go.W
namespace Go.W
open Go Go.Sx
theorem batch_valid {n : Int} (hn : 1 ≤ n ∧ n ≤ 1000000000000) : ∀ (k i : Nat), validAct ((batchL n k).getD i zA) = true ∨ (batchL n k).length ≤ i
  | 0, i => by
    match i with
    | 0 => exact .inl (by show validAct ⟨4, 0⟩ = true; decide)
    | i + 1 => exact .inr (by rw [batchL_len]; omega)
  | k + 1, i => by
    have hlen := batchL_len n k
    rcases Nat.lt_or_ge i (1 + 4 * k) with h | h
    · rw [batchL, getD_l (by omega)]
      rcases batch_valid hn k i with h1 | h1
      · exact .inl h1
      · omega
    · rcases Nat.lt_or_ge i (1 + 4 * k + 4) with h2 | h2
      · refine .inl ?_
        obtain ⟨j, rfl⟩ : ∃ j, i = 1 + 4 * k + j := ⟨i - (1 + 4 * k), by omega⟩
        rw [batchL, getD_r hlen]
        have v3 : validAct ⟨3, n⟩ = true := by unfold validAct; rw [decide_eq_true_iff]; dsimp only; omega
        have v1 : validAct ⟨1, n⟩ = true := by unfold validAct; rw [decide_eq_true_iff]; dsimp only; omega
        match j, (show j < 4 by omega) with
        | 0, _ => exact v3
        | 1, _ => exact v1
        | 2, _ => show validAct ⟨5, 0⟩ = true; decide
        | 3, _ => show validAct ⟨4, 0⟩ = true; decide
      · exact .inr (by rw [batchL_len]; omega)
theorem batch_ok {s : List Int} {n : Int} (hvs : validStack s = true) (hn : 1 ≤ n ∧ n ≤ size s - 1) {k : Nat} (hk : k ≤ 10) :
    validDev ⟨s, zDig, -1, false, 0⟩ = true → RunOk ⟨s, zDig, -1, false, 0⟩ (batchL n k) ∧ (runV ⟨s, zDig, -1, false, 0⟩ (batchL n k)).1 = ⟨s, zDig, if k = 0 then -1 else n, false, k⟩ ∧ (runV ⟨s, zDig, -1, false, 0⟩ (batchL n k)).2.2.1 = (List.range k).map (batchT s n) ∧ (runV ⟨s, zDig, -1, false, 0⟩ (batchL n k)).2.2.2.1 = 0 ∧ (runV ⟨s, zDig, -1, false, 0⟩ (batchL n k)).2.2.2.2 = 0 := by
  intro hv
  have hs := Go.W.stk hvs
  have hz := hs.size_
  have hle := hs.le
  obtain ⟨h1, h2, h3, h4⟩ := batch_run hs (by rw [← hz]; exact hn) k (by omega)
  have hlen := batchL_len n k
  have hR : RunOk ⟨s, zDig, -1, false, 0⟩ (batchL n k) := by
    refine run_of hv (by omega) (fun i hi => ?_) (fun j hj => ?_) (by rw [hlen, h2]; omega)
    · rcases batch_valid (n := n) (by omega) k i with h | h
      · exact h
      · omega
    · rw [hlen] at hj
      by_cases h5 : runC ⟨s, zDig, -1, false, 0⟩ (batchL n k) j = 0
      · exact h5
      · have := rc_stay h5 (1 + 4 * k - j)
        rw [show j + (1 + 4 * k - j) = 1 + 4 * k by omega, h3] at this
        exact this.symm
  refine ⟨hR, ?_, ?_, ?_, ?_⟩
  · rw [hR.rv]; show runD _ _ (batchL n k).length = _; rw [hlen, h1]
  · rw [hR.rv]; show ticsL _ _ (batchL n k).length = _; rw [hlen, h4]
  · rw [hR.rv]; show lostD _ _ (batchL n k).length = _; rw [hlen, h2]
  · rw [hR.rv]
theorem newdev_ok {s : List Int} (hu : Nums 255 s) (hvs : validStack s = true) : OkDev ⟨s, zDig, -1, false, 0⟩ ∧ validDev ⟨s, zDig, -1, false, 0⟩ = true := by
  have hs := Go.W.stk hvs
  have hl8 := hs.len8
  refine ⟨⟨show s.length ≤ maxLen by unfold maxLen; omega, hu, nums_zero, by unfold I64; dsimp only; omega, by unfold I64; dsimp only; omega⟩, validDev_of hvs (validDig_zero hs) (by dsimp only; omega) (.inl rfl) (fun h => by cases h)⟩
theorem batchT_at {s : List Int} {n : Int} {k i : Nat} (h : i < k) : ((List.range k).map (batchT s n)).getD i zT = batchT s n i := by simp [List.getD, h]
theorem batchT_val {s : List Int} {n : Int} (hvs : validStack s = true) (hn : 1 ≤ n ∧ n ≤ size s - 1) (i : Nat) : validDig s (batchT s n i).shows.l = true ∧ val s (batchT s n i).shows.l = n := by
  have hs := Go.W.stk hvs
  have hz := hs.size_
  refine ⟨addD_valid hs, ?_⟩
  show val s (addD s zDig n).l = n
  rw [addD_val hs, val_zero hs, Int.zero_add, Int.emod_eq_of_lt (by omega) (by omega)]
end Go.W

/- A rest is at most the number. -/
namespace Go.W
open Go Go.Sx
theorem mod_le {z n : Int} (hz : 0 ≤ z) (hn : 0 < n) : z % n ≤ z := by
  rcases Int.lt_or_le z n with h | h
  · rw [Int.emod_eq_of_lt hz h]; exact Int.le_refl _
  · have := Int.emod_lt_of_pos z hn; omega
end Go.W

/- Stacks, devices and acts that are drawn; what the law of journals asks. -/
set_option linter.unusedVariables false
set_option linter.unusedSimpArgs false
namespace Go.W
open Go Go.Sx
/-- A stack in the making. -/
def StkP (l : List Int) : Prop := ∀ i, i < l.length → 2 ≤ l.getD i 0 ∧ l.getD i 0 ≤ 100
structure StS where
  l : List Int
  k : Int
  at_ : Int
  sd : Int
  A : Option Addr
  c : Nat
theorem StkP.nil : StkP [] := fun i hi => by simp at hi
theorem StkP.next {l : List Int} {x : Int} (h : StkP l) (hx : 2 ≤ x ∧ x ≤ 100) : StkP (l ++ [x]) := fun i hi => by
  rcases Nat.lt_or_ge i l.length with h1 | h1
  · rw [getD_l h1]; exact h i h1
  · have : i = l.length + 0 := by simp at hi; omega
    subst this; rw [getD_r rfl]; exact hx
theorem prod_pow : ∀ {l : List Int}, StkP l → 1 ≤ prod l ∧ prod l ≤ 100 ^ l.length
  | [], _ => by simp [prod]
  | b :: s, h => by
    have h1 := h 0 (by simp)
    have h2 := prod_pow (l := s) fun i hi => by have := h (i + 1) (by simp; omega); simpa using this
    have h1' : 2 ≤ b ∧ b ≤ 100 := by simpa using h1
    have h3 : 2 * 1 ≤ b * prod s := Int.mul_le_mul h1'.1 h2.1 (by omega) (by omega)
    have h4 : b * prod s ≤ 100 * 100 ^ s.length := Int.mul_le_mul h1'.2 h2.2 (by omega) (by omega)
    have h5 : (100 : Int) ^ (s.length + 1) = 100 * 100 ^ s.length := by rw [Int.pow_succ, Int.mul_comm]
    simp only [prod, List.length_cons, h5]; omega
/-- A stack as it is drawn. -/
def DrStk (l : List Int) : Prop := StkP l ∧ 1 ≤ l.length ∧ l.length ≤ 4
theorem DrStk.nums {l : List Int} (h : DrStk l) : Nums 255 l := fun x hx => by
  obtain ⟨i, hi, rfl⟩ := List.getElem_of_mem hx
  have := h.1 i hi
  simp only [List.getD, List.getElem?_eq_getElem hi, Option.getD_some] at this
  omega
theorem DrStk.size {l : List Int} (h : DrStk l) : size l = prod l ∧ 1 ≤ prod l ∧ prod l ≤ 100000000 := by
  have h1 := prod_pow h.1
  have h2 : (100 : Int) ^ l.length ≤ 100000000 := by
    obtain ⟨h3, h4, h5⟩ := h
    have h6 : l.length = 1 ∨ l.length = 2 ∨ l.length = 3 ∨ l.length = 4 := by omega
    rcases h6 with h6 | h6 | h6 | h6 <;> rw [h6] <;> decide
  have h6 := size_prod (s := l) h.1
  exact ⟨by omega, h1.1, by omega⟩
theorem DrStk.valid {l : List Int} (h : DrStk l) : validStack l = true := by
  have h1 := h.size
  unfold validStack; rw [decide_eq_true_iff]
  exact ⟨h.2.1, by have := h.2.2; omega, h.1, by omega⟩
theorem drawn_dev {s : List Int} {v p t : Int} {b : Bool} (h : DrStk s) (hv : 0 ≤ v ∧ v < size s) (hp : p = -1 ∨ 0 ≤ p ∧ p < size s) (hb : b = true → p = v) (ht : 0 ≤ t ∧ t ≤ 19) : DrDev ⟨s, dig (digs s v), p, b, t⟩ := by
  have hz := h.size
  have hs := Go.W.stk h.valid
  have hl := h.2.2
  have hdl : (dig (digs s v)).l = digs s v := dig_l (digs_len _ _)
  refine ⟨⟨show s.length ≤ maxLen by unfold maxLen; omega, h.nums, by show Nums 255 (dig (digs s v)).l; rw [hdl]; exact digs_num hs.bases, show I64 p by unfold I64; omega, show I64 t by unfold I64; omega⟩,
    validDev_of h.valid (by show validDig s (dig (digs s v)).l = true; rw [hdl]; exact digs_valid hs) (by show 0 ≤ t ∧ t ≤ 1000000; omega) (by show p = -1 ∨ 0 ≤ p ∧ p ≤ size s - 1; omega) (fun h1 => ?_), hl, ht⟩
  show p = val s (dig (digs s v)).l
  rw [hdl, val_of hs, Int.emod_eq_of_lt hv.1 (by omega)]; exact hb h1
theorem DrDev.len {d : VDev} (h : DrDev d) : 0 < d.stack.length ∧ d.stack.length ≤ 4 ∧ validStack d.stack = true ∧ Nums 255 d.stack ∧ 2 ≤ size d.stack ∧ size d.stack ≤ 1000000000000 := by
  obtain ⟨hk, hv, hl, _⟩ := h
  have hO := devOk hk.2.2.1 hv
  have h1 : validStack d.stack = true := by unfold validDev at hv; rw [decide_eq_true_iff] at hv; exact hv.1
  have h2 := hO.stk.len1
  have h3 := sizeS hO
  have h4 := hO.stk.le
  have h5 := size_two hO.stk
  exact ⟨by omega, hl, h1, hk.2.1, by omega, by omega⟩
/-- Acts in the making. -/
structure AcS where
  l : List VAct
  k : Int
  at_ : Int
  sd : Int
  A : Option Addr
  c : Nat
def ActP (s : List Int) (l : List VAct) : Prop := ∀ i, i < l.length → OkJ s (l.getD i zA)
theorem ActP.nil {s : List Int} : ActP s [] := fun i hi => by simp at hi
theorem ActP.next {s : List Int} {l : List VAct} {x : VAct} (h : ActP s l) (hx : OkJ s x) : ActP s (l ++ [x]) := fun i hi => by
  rcases Nat.lt_or_ge i l.length with h1 | h1
  · rw [getD_l h1]; exact h i h1
  · have : i = l.length + 0 := by simp at hi; omega
    subst this; rw [getD_r rfl]; exact hx
theorem notes_at {d : VDev} {l : List VAct} (hR : RunOk d l) {i : Nat} (hi : i < l.length) : (runV d l).2.1.getD i zN = ⟨l.getD i zA, (doV (runD d l i) (l.getD i zA)).1.shows, (doV (runD d l i) (l.getD i zA)).2.1⟩ := by
  rw [hR.rv]; exact notesL_at d l _ i hi
theorem notes_okn {d : VDev} {l : List VAct} (h : DrDev d) (hl : DrActs d.stack l) : ∀ i, i < l.length → OkNote ((runV d l).2.1.getD i zN) := fun i hi => by
  have hn := note_ok h hl hi
  have hR := run_drawn h hl
  rw [notes_at hR hi] at hn ⊢
  have h4 := run_ok h.1 h.2.1 (fun i hi => (hl.2 i hi).valid) (i + 1) (by omega)
  refine ⟨(hl.2 i hi).ok, h4.1.2.2.1, ?_⟩
  have := hn.2.1; have := hn.2.2.1
  unfold I64; dsimp only at *; omega
theorem mem_at {α : Type} {p : α → Prop} {l : List α} (d : α) (h : ∀ i, i < l.length → p (l.getD i d)) : ∀ x ∈ l, p x := fun x hx => by
  obtain ⟨i, hi, rfl⟩ := List.getElem_of_mem hx
  have := h i hi
  simpa [List.getD, hi] using this
/-- What is known of a journal of a device and of acts that are drawn. -/
structure Jrn (d : VDev) (l : List VAct) : Prop where
  code : (runV d l).2.2.2.2 = 0
  len : (runV d l).2.1.length = l.length
  ok : ∀ x ∈ (runV d l).2.1, OkNote x
  right : firstWrong d (runV d l).2.1 = (0, 6)
  each : ∀ i, i < l.length → sameA ((runV d l).2.1.getD i zN).act (l.getD i zA) = true ∧ 0 ≤ ((runV d l).2.1.getD i zN).lost ∧ ((runV d l).2.1.getD i zN).lost ≤ 19 ∧ ((l.getD i zA).kind ≠ 3 → ((runV d l).2.1.getD i zN).lost ≤ (l.getD i zA).n) ∧ (2 < (l.getD i zA).kind → ((runV d l).2.1.getD i zN).lost = 0)
  bent : ∀ k, k < l.length → firstWrong d (bent (runV d l).2.1 k) = ((k : Int), 0) ∧ ∀ x ∈ bent (runV d l).2.1 k, OkNote x
theorem jrn {d : VDev} {l : List VAct} (h : DrDev d) (hl : DrActs d.stack l) : Jrn d l := by
  have hR := run_drawn h hl
  have hn := hl.1
  have hlen := notes_len hR
  have hok := notes_okn h hl
  have ha := fun i hi => (hl.2 i hi).valid
  refine ⟨by rw [hR.rv], hlen, mem_at zN (by rw [hlen]; exact hok), fw_run h.2.1 (by omega) ha hR, fun i hi => ?_, fun k hk => ⟨fw_bent h.2.1 (by omega) ha hR hk, mem_at zN fun i hi => ?_⟩⟩
  · have := note_ok h hl hi
    exact ⟨by rw [this.1]; exact sameA_refl _, this.2⟩
  · rw [bent_len, hlen] at hi
    rw [bent_at (by omega) i]
    split
    · rename_i e; subst e
      have h1 := hok i hi
      have h2 := note_ok h hl hi
      refine ⟨h1.1, h1.2.1, ?_⟩
      have := h2.2.1; have := h2.2.2.1
      show I64 (((runV d l).2.1.getD i zN).lost + 1)
      unfold I64; omega
    · exact hok i hi
theorem bent_put {ns : List VNote} {k q : Nat} {z : Int} {v : List Value} (h : k < ns.length) (hq : q = k * 11 + 10) (hz : z = (ns.getD k zN).lost + 1) (hv : v = [.int .i64 z]) : put (ns.flatMap encN) q v = (bent ns k).flatMap encN := by
  subst hv; subst hz
  exact flat_putp encN_len zN ns k ⟨(ns.getD k zN).act, (ns.getD k zN).shows, (ns.getD k zN).lost + 1⟩ h 10 [.int .i64 ((ns.getD k zN).lost + 1)] rfl rfl hq
/-- What is known of batches. -/
structure Btc (s : List Int) (E : VDev) (n m : Int) : Prop where
  dev : OkDev E ∧ validDev E = true
  stk : E.stack = s
  two : (batchV E n m).2 = 0
  len : (batchV E n m).1.length ≤ 60
  run : (runV E (batchV E n m).1).2.2.2.2 = 0
  lost : (runV E (batchV E n m).1).2.2.2.1 = 0
  tick : (runV E (batchV E n m).1).1.tickets = m
  many : ((runV E (batchV E n m).1).2.2.1.length : Int) = m
  each : ∀ i, i < (runV E (batchV E n m).1).2.2.1.length → validDig s ((runV E (batchV E n m).1).2.2.1.getD i zT).shows.l = true ∧ Nums 255 ((runV E (batchV E n m).1).2.2.1.getD i zT).shows.l ∧ val s ((runV E (batchV E n m).1).2.2.1.getD i zT).shows.l = n
theorem btc {s : List Int} {E : VDev} {n m : Int} (hE : (newDev s).1 = E) (hu : Nums 255 s) (hvs : validStack s = true) (hn : 1 ≤ n ∧ n ≤ size s - 1) (hm : 0 ≤ m ∧ m ≤ 10) : Btc s E n m := by
  subst hE
  obtain ⟨k, rfl⟩ : ∃ k : Nat, m = (k : Int) := ⟨m.toNat, by omega⟩
  have hd := newdev_ok hu hvs
  have e := nwd_t hvs
  have hb : batchV ⟨s, zDig, -1, false, 0⟩ n k = (batchL n k, 0) := bt_ok hd.2 ⟨hn, by omega⟩ (by omega)
  obtain ⟨h1, h2, h3, h4, h5⟩ := batch_ok hvs hn (k := k) (by omega) hd.2
  have hl := batchL_len n k
  refine ⟨?_, ?_, ?_, ?_, ?_, ?_, ?_, ?_, ?_⟩ <;> rw [e] <;> try simp only [hb]
  · exact hd
  · omega
  · exact h5
  · exact h4
  · rw [h2]
  · rw [h3]; simp
  · intro i hi
    rw [h3] at hi ⊢
    simp only [List.length_map, List.length_range] at hi
    rw [batchT_at hi]
    have := batchT_val (n := n) hvs hn i
    exact ⟨this.1, addD_num (Go.W.stk hvs), this.2⟩
end Go.W
