/- A number repeated. -/
import Derived.Test.YtplljnddhkleaaaM43
import Derived.Test.YtplljnddhkleaaaF5
set_option linter.unusedVariables false
set_option linter.unusedSimpArgs false
namespace Go.W
open Go Go.Sx
theorem and32 {x : Int} (h : 0 ≤ x ∧ x < 18446744073709551616) : bits .and .u64 x 4294967295 = x % 4294967296 := bits_mask .u64 64 (Nat.le_refl _) wrap_u64n 32 (by decide) x h.1 (by have := h.2; omega)
theorem shr32 (x : Int) : x / 2 ^ min (32 : Int).toNat IntKind.u64.bits = x / 4294967296 := rfl
def repP (n : Nat) (a : Int) (k : Nat) : List Int := List.replicate k a ++ List.replicate (n - k) 0
theorem repP_len {n : Nat} {a : Int} {k : Nat} (h : k ≤ n) : (repP n a k).length = n := by unfold repP; simp; omega
theorem repP_all (n : Nat) (a : Int) : repP n a n = List.replicate n a := by unfold repP; simp
theorem repl_flat (a : Int) (n : Nat) : (List.replicate n a).flatMap (eI .i64) = List.replicate n (Value.int .i64 a) := by
  induction n with
  | zero => rfl
  | succ n ih => rw [List.replicate_succ, List.flatMap_cons, ih, List.replicate_succ]; rfl
theorem repP_flat (n : Nat) (a : Int) (k : Nat) : (repP n a k).flatMap (eI .i64) = List.replicate k (Value.int .i64 a) ++ List.replicate (n - k) (Value.int .i64 0) := by
  unfold repP; rw [List.flatMap_append, repl_flat, repl_flat]
theorem repP_put {n : Nat} {a : Int} {k j q : Nat} (h : k + j ≤ n) (hq : q = k) : put ((repP n a k).flatMap (eI .i64)) q (List.replicate j (Value.int .i64 a)) = (repP n a (k + j)).flatMap (eI .i64) := by
  subst hq
  rw [repP_flat, repP_flat]
  simp only [put]
  rw [List.take_append_of_le_length (by simp), List.take_of_length_le (by simp), List.length_replicate, List.drop_append, List.length_replicate, List.drop_of_length_le (by simp), List.nil_append, List.drop_replicate, List.replicate_append_replicate]
  congr 2; omega
theorem rep_first {n : Nat} {a : Int} (h : 1 ≤ n) : put (zerosL (eI .i64 0) n) 0 [Value.int .i64 a] = (repP n a 1).flatMap (eI .i64) := by
  rw [zeros_flat (eI_len .i64) 0 (by omega) n]
  exact repP_put (k := 0) (j := 1) (by omega) rfl
theorem rep_room {n : Nat} {a : Int} (h : 1 ≤ n) : 0 + [Value.int .i64 a].length ≤ (zerosL [Value.int .i64 0] n).length := by
  show 0 + 1 ≤ (zerosL (eI .i64 0) n).length
  rw [zeros_flat (eI_len .i64) 0 (by omega), flat_len (eI_len .i64), List.length_replicate]; omega
theorem rep_seg {n : Nat} {a : Int} {k j : Nat} (h : j ≤ k) : ((repP n a k).flatMap (eI .i64)).take (List.replicate j (Value.int .i64 a)).length = List.replicate j (Value.int .i64 a) := by
  rw [repP_flat, List.length_replicate, List.take_append_of_le_length (by simpa using h), List.take_replicate, Nat.min_eq_left h]
theorem rep_one {C : Cx} {m : List Ent} {A : Option Addr} {a : Int} (H : Reads C m A ([a].flatMap (eI .i64))) : SegO C m A [Value.int .i64 a] := by
  have h := SegO.of (k := 0) (seg := [Value.int .i64 a]) H (by simp) (fun j u hj => by rw [Nat.zero_add]; exact hj)
  have e : offA A 0 = A := by cases A <;> rfl
  rwa [e] at h
theorem rep_all1 (a : Int) (j : Nat) : (List.replicate j (Value.int .i64 a)).all (·.oneCell') = true := by
  rw [List.all_eq_true]; intro x hx; rw [List.eq_of_mem_replicate hx]; rfl
end Go.W
