/- The texts of a ticket and of a log. -/
import Derived.Test.YthfbmkfbmmjchaaDoorM64
import Derived.Test.YthfbmkfbmmjchaaDoorM62
import Derived.Test.YthfbmkfbmmjchaaDoorM4
import Derived.Test.YthfbmkfbmmjchaaDoorM12
import Derived.Test.YthfbmkfbmmjchaaDoorM3
set_option linter.unusedVariables false
namespace Go.W
open Go Go.Sx
def ticT (s : List Int) (t : VTic) : List UInt8 := Lib.itoa t.number ++ [32] ++ digT s t.shows.l ++ [32] ++ Lib.itoa t.check
def ticTx (s : List Int) (t : VTic) : List UInt8 := if validStack s = true ∧ genT s t = true then ticT s t else []
theorem ticTx_0 {s : List Int} {t : VTic} (h : validStack s = false) : ticTx s t = [] := if_neg (by simp [h])
theorem ticTx_1 {s : List Int} {t : VTic} (h : genT s t = false) : ticTx s t = [] := if_neg (by simp [h])
theorem ticTx_t {s : List Int} {t : VTic} (h : validStack s = true) (h1 : genT s t = true) : ticTx s t = ticT s t := if_pos ⟨h, h1⟩
theorem gen_of {s : List Int} {t : VTic} (h : genT s t = true) : (1 ≤ t.number ∧ t.number ≤ 1000000) ∧ validDig s t.shows.l = true ∧ t.check = check t.number t.shows.l := of_decide_eq_true h
def dsv (s : List Int) (v : Int) : List Int := (dig (digs s v)).l
def logLn (s : List Int) (x : VP) : List UInt8 := Lib.itoa x.a ++ [32] ++ digT s (dsv s x.b) ++ [10]
def lText (s : List Int) (l : List VP) (k : Nat) : List UInt8 := joinT (fun i => logLn s (l.getD i zP)) k
def logTx (s : List Int) (l : List VP) : List UInt8 := if validLog s l = true then lText s l l.length else []
theorem logTx_f {s : List Int} {l : List VP} (h : validLog s l = false) : logTx s l = [] := if_neg (by simp [h])
theorem logTx_t {s : List Int} {l : List VP} (h : validLog s l = true) : logTx s l = lText s l l.length := if_pos h
theorem dsv_num {s : List Int} (h : Stk s) (v : Int) : Nums 255 (dsv s v) := by unfold dsv; rw [dig_l (digs_len _ _)]; exact digs_num h.bases
theorem dsv_valid {s : List Int} (h : Stk s) (v : Int) : validDig s (dsv s v) = true := by unfold dsv; rw [dig_l (digs_len _ _)]; exact digs_valid h
theorem dsv_tx {s : List Int} (hv : validStack s = true) (v : Int) : digTx s (dsv s v) = digT s (dsv s v) := digTx_t (by rw [hv, dsv_valid (stk hv)]; rfl)
theorem dsv_le {s : List Int} (hv : validStack s = true) (v : Int) : (digT s (dsv s v)).length ≤ 24 := digT_le (stk hv) (digOk (stk hv).len8 (dsv_num (stk hv) v) (dsv_valid (stk hv) v))
theorem lText_le {s : List Int} {l : List VP} (hv : validStack s = true) (hl : l.length ≤ 1000) (hd : ∀ i, i < l.length → -9223372036854775808 ≤ (l.getD i zP).a ∧ (l.getD i zP).a ≤ 9223372036854775807) {k : Nat} (hk : k ≤ l.length) : (lText s l k).length ≤ 46000 := by
  have h1 := joinT_le (f := fun i => logLn s (l.getD i zP)) (B := 46) k fun i hi => by
    have h2 := itoa_le (hd i (by omega))
    have h3 := dsv_le hv (l.getD i zP).b
    simp only [logLn, List.length_append, List.length_cons, List.length_nil]
    omega
  unfold lText
  omega
theorem lText_pos {s : List Int} {l : List VP} {k : Nat} (hk : 0 < k) : lText s l k ≠ [] := by
  have := joinT_pos (f := fun i => logLn s (l.getD i zP)) (fun i => by simp only [logLn, List.length_append, List.length_cons, List.length_nil]; omega) k hk
  intro h
  unfold lText at h
  rw [h] at this
  simp at this
theorem lText_s (s : List Int) (l : List VP) (k : Nat) : lText s l (k + 1) = lText s l k ++ (Lib.itoa (l.getD k zP).a ++ [32] ++ digT s (dsv s (l.getD k zP).b) ++ [10]) := rfl
end Go.W
