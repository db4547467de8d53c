/- Marks as the program reckons them. -/
import Derived.Test.YthfbmkfbmmjchaaDoorM36
import Derived.Test.YthfbmkfbmmjchaaDoorF4
set_option linter.unusedVariables false
set_option linter.unusedSimpArgs false
namespace Go.W
open Go Go.Sx
theorem has_dec {m : VMk} {d : Nat} (hm : OkMk m) (hd : d < 128) : decide (bits .and .u64 (m.l.getD (d / 64) 0 / 2 ^ min ((d : Int) % 64).toNat IntKind.u64.bits) 1 = 1) = hasM m d := by
  rw [show ((d : Int) % 64) = ((d % 64 : Nat) : Int) by omega, bit_walk (hm.at_ _) (by omega)]
  show decide ((if hasM m d = true then 1 else 0 : Int) = 1) = hasM m d
  cases hasM m d <;> rfl
theorem has_walk {m : VMk} {d : Nat} (hm : OkMk m) (hd : d < 128) : bits .and .u64 (m.l.getD (d / 64) 0 / 2 ^ min ((d : Int) % 64).toNat IntKind.u64.bits) 1 = if hasM m d = true then 1 else 0 := by
  rw [show ((d : Int) % 64) = ((d % 64 : Nat) : Int) by omega, bit_walk (hm.at_ _) (by omega)]; rfl
theorem put_walk {m : VMk} {d : Nat} (hm : OkMk m) (hd : d < 128) : put (encMk m) (0 + ((d / 64 : Nat) : Int).toNat * 1) [.int .u64 (bits .or .u64 (m.l.getD (d / 64) 0) (IntKind.u64.wrap (1 * 2 ^ min ((d : Int) % 64).toNat IntKind.u64.bits)))] = encMk (putM m d) := by
  rw [show ((d : Int) % 64) = ((d % 64 : Nat) : Int) by omega, shl_one (by omega), bits_or1 (hm.at_ _) (by omega)]
  unfold putM
  rw [encMk_mk (by rw [List.length_set]; rfl), Nat.zero_add, Int.toNat_natCast]
  exact flat_put (eI_len .u64) m.l (d / 64) _ (by rw [mk_len]; omega)
theorem pa_1 {s : List Int} {l : List VMk} {k : Nat} (hk : k < s.length) (h : decide ((l.getD k zMk).l = [0, 0]) = true) : phAt s l k = false := by unfold phAt; rw [if_pos hk, h]; rfl
theorem pa_2 {s : List Int} {l : List VMk} {k : Nat} (hk : k < s.length) (h : ¬ bits .andNot .u64 (l.getD k zMk).lo (fullM (s.getD k 0).toNat).lo = 0) : phAt s l k = false := by
  unfold phAt subM; rw [if_pos hk, decide_eq_false (p := _ ∧ _) (fun h9 => h h9.1), Bool.and_false]
theorem pa_3 {s : List Int} {l : List VMk} {k : Nat} (hk : k < s.length) (h : ¬ bits .andNot .u64 (l.getD k zMk).hi (fullM (s.getD k 0).toNat).hi = 0) : phAt s l k = false := by
  unfold phAt subM; rw [if_pos hk, decide_eq_false (p := _ ∧ _) (fun h9 => h h9.2), Bool.and_false]
theorem pa_4 {s : List Int} {l : List VMk} {k : Nat} (hk : k < s.length) (h0 : decide ((l.getD k zMk).l = [0, 0]) = false) (h1 : bits .andNot .u64 (l.getD k zMk).lo (fullM (s.getD k 0).toNat).lo = 0) (h2 : bits .andNot .u64 (l.getD k zMk).hi (fullM (s.getD k 0).toNat).hi = 0) : phAt s l k = true := by
  unfold phAt subM; rw [if_pos hk, h0, decide_eq_true ⟨h1, h2⟩]; rfl
theorem pa_4s {s : List Int} {l : List VMk} {k : Nat} (hk : k < s.length) (h0 : decide ((l.getD k zMk).l = [0, 0]) = false) (h1 : subM (l.getD k zMk) (fullM (s.getD k 0).toNat) = true) : phAt s l k = true := by
  unfold phAt; rw [if_pos hk, h0, h1]; rfl
theorem pa_2s {s : List Int} {l : List VMk} {k : Nat} (hk : k < s.length) (h : subM (l.getD k zMk) (fullM (s.getD k 0).toNat) = false) : phAt s l k = false := by
  unfold phAt; rw [if_pos hk, h, Bool.and_false]
theorem pa_5 {s : List Int} {l : List VMk} {k : Nat} (hk : ¬ k < s.length) (h : (!decide ((l.getD k zMk).l = [0, 0])) = true) : phAt s l k = false := by
  unfold phAt; rw [if_neg hk]; simpa using h
theorem pa_6 {s : List Int} {l : List VMk} {k : Nat} (hk : ¬ k < s.length) (h : (!decide ((l.getD k zMk).l = [0, 0])) = false) : phAt s l k = true := by
  unfold phAt; rw [if_neg hk]; simpa using h
theorem sub_dec {m n : VMk} : subM m n = (decide (bits .andNot .u64 m.lo n.lo = 0) && decide (bits .andNot .u64 m.hi n.hi = 0)) := by
  unfold subM; rw [Bool.decide_and]
theorem sh_1 {s : List Int} {p : VPh} {a : Dig} (h : validPh s p = false) : shV s p a = (false, 1) := by unfold shV; rw [h]; rfl
theorem sh_2 {s : List Int} {p : VPh} {a : Dig} (h : (validStack s && validDig s a.l) = false) : shV s p a = (false, 1) := by unfold shV; rw [h, Bool.and_false]; rfl
theorem sh_0 {s : List Int} {p : VPh} {a : Dig} (h1 : validPh s p = true) (h : (validStack s && validDig s a.l) = true) : shV s p a = (showsM s p.l a.l, 0) := by unfold shV; rw [h, h1]; rfl
end Go.W
