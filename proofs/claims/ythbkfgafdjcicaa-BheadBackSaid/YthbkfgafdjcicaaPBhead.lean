/- Plain lemmas: words of blocks' headers. No program in sight. -/
import Derived.Test.YthbkfgafdjcicaaPOhead
namespace Go.Proofs.Ythbkfgafdjcicaa.Bh
set_option linter.unusedVariables false
open Go Go.RowKit
def right (k c l : Int) : Bool := decide ((k = 0 ∧ c = 0 ∧ l = 0) ∨ (k = 1 ∧ 0 ≤ c ∧ c < 32 ∧ l = 0) ∨ ((k = 2 ∨ k = 3) ∧ c = 0 ∧ 1 ≤ l ∧ l ≤ 255))
theorem right_iff (k c l : Int) : right k c l = true ↔ ((k = 0 ∧ c = 0 ∧ l = 0) ∨ (k = 1 ∧ 0 ≤ c ∧ c < 32 ∧ l = 0) ∨ ((k = 2 ∨ k = 3) ∧ c = 0 ∧ 1 ≤ l ∧ l ≤ 255)) := by unfold right; simp
theorem right_yes (k c l : Int) (h : (k = 0 ∧ c = 0 ∧ l = 0) ∨ (k = 1 ∧ 0 ≤ c ∧ c < 32 ∧ l = 0) ∨ ((k = 2 ∨ k = 3) ∧ c = 0 ∧ 1 ≤ l ∧ l ≤ 255)) : right k c l = true := (right_iff k c l).2 h
theorem right_no (k c l : Int) (h : ¬ ((k = 0 ∧ c = 0 ∧ l = 0) ∨ (k = 1 ∧ 0 ≤ c ∧ c < 32 ∧ l = 0) ∨ ((k = 2 ∨ k = 3) ∧ c = 0 ∧ 1 ≤ l ∧ l ≤ 255))) : right k c l = false := by
  cases e : right k c l
  · rfl
  · exact absurd ((right_iff k c l).1 e) h
theorem right_bd (k c l : Int) (h : right k c l = true) : 0 ≤ k ∧ k ≤ 3 ∧ 0 ≤ c ∧ c < 32 ∧ 0 ≤ l ∧ l ≤ 255 := by
  have := (right_iff k c l).1 h
  omega
theorem put_b (k c l : Int) (h1 : 0 ≤ k) (h2 : k ≤ 3) (h3 : 0 ≤ c) (h4 : c < 32) (h5 : 0 ≤ l) (h6 : l ≤ 255) :
    Bt.put 0 0 2 k = k ∧ Bt.put k 2 6 c = k + 4 * c ∧ Bt.put (k + 4 * c) 8 16 l = k + 4 * c + 256 * l := by
  have a := Oh.put_add 0 k 0 2 (by decide) (by decide) (by omega) (by decide) h1 (by omega)
  have b := Oh.put_add k c 2 6 (by decide) (by decide) (by omega) (by omega) h3 (by omega)
  have e := Oh.put_add (k + 4 * c) l 8 16 (by decide) (by decide) (by omega) (by omega) h5 (by omega)
  have e0 : ((0 : Nat) : Int) = 0 := rfl
  have e1 : ((2 : Nat) : Int) = 2 := rfl
  have e2 : ((6 : Nat) : Int) = 6 := rfl
  have e3 : ((8 : Nat) : Int) = 8 := rfl
  have e4 : ((16 : Nat) : Int) = 16 := rfl
  rw [e0, e1] at a
  rw [e1, e2] at b
  rw [e3, e4] at e
  rw [a, b, e]
  omega
def enc (k c l at_ : Int) : Int := if right k c l then Sl.sealed (k + 4 * c + 256 * l) at_ else 0
theorem enc_bad (k c l at_ : Int) (h : right k c l = false) : enc k c l at_ = 0 := by unfold enc; rw [h]; rfl
theorem enc_good (k c l at_ : Int) (h : right k c l = true) : enc k c l at_ = Sl.sealed (k + 4 * c + 256 * l) at_ := by unfold enc; rw [h]; rfl
theorem enc_bd (k c l at_ : Int) : 0 ≤ enc k c l at_ ∧ enc k c l at_ ≤ 18446744073709551615 := by
  cases h : right k c l
  · rw [enc_bad _ _ _ _ h]; omega
  · have b := right_bd k c l h
    rw [enc_good _ _ _ _ h]
    exact Sl.seal_bd _ _ (by omega) (by omega)
def rawK (x : Int) : Int := x % 4294967296 % 4
def rawC (x : Int) : Int := x % 4294967296 / 4 % 64
def rawL (x : Int) : Int := x % 4294967296 / 256 % 65536
theorem raw_bd (x : Int) : 0 ≤ rawK x ∧ rawK x ≤ 3 ∧ 0 ≤ rawC x ∧ rawC x ≤ 63 ∧ 0 ≤ rawL x ∧ rawL x ≤ 65535 := by unfold rawK rawC rawL; omega
theorem raw_get (x : Int) : Bt.get (x % 4294967296) 0 2 = rawK x ∧ Bt.get (x % 4294967296) 2 6 = rawC x ∧ Bt.get (x % 4294967296) 8 16 = rawL x := by
  have a := Oh.get_div (x % 4294967296) 0 2 (by decide) (by decide) (by omega)
  have b := Oh.get_div (x % 4294967296) 2 6 (by decide) (by decide) (by omega)
  have c := Oh.get_div (x % 4294967296) 8 16 (by decide) (by decide) (by omega)
  refine ⟨?_, b, c⟩
  unfold rawK
  have a' : Bt.get (x % 4294967296) 0 2 = x % 4294967296 / 1 % 4 := a
  rw [a', Int.ediv_one]
def decB (x at_ : Int) : Bool := Sl.openB x at_ && decide (enc (rawK x) (rawC x) (rawL x) at_ = x)
def decE (x at_ : Int) : Int := if Sl.openB x at_ then (if enc (rawK x) (rawC x) (rawL x) at_ = x then 0 else 26) else 25
def decK (x at_ : Int) : Int := if decB x at_ then rawK x else 0
def decC (x at_ : Int) : Int := if decB x at_ then rawC x else 0
def decL (x at_ : Int) : Int := if decB x at_ then rawL x else 0
theorem dec_closed (x at_ : Int) (h : Sl.openB x at_ = false) : decE x at_ = 25 ∧ decK x at_ = 0 ∧ decC x at_ = 0 ∧ decL x at_ = 0 := by
  unfold decE decK decC decL decB; rw [h]; simp
theorem dec_other (x at_ : Int) (h : Sl.openB x at_ = true) (h2 : enc (rawK x) (rawC x) (rawL x) at_ ≠ x) : decE x at_ = 26 ∧ decK x at_ = 0 ∧ decC x at_ = 0 ∧ decL x at_ = 0 := by
  unfold decE decK decC decL decB; rw [h]; simp [h2]
theorem dec_right (x at_ : Int) (h : Sl.openB x at_ = true) (h2 : enc (rawK x) (rawC x) (rawL x) at_ = x) : decE x at_ = 0 ∧ decK x at_ = rawK x ∧ decC x at_ = rawC x ∧ decL x at_ = rawL x := by
  unfold decE decK decC decL decB; rw [h]; simp [h2]
theorem dec_none (x at_ : Int) (h : right (rawK x) (rawC x) (rawL x) = false) : enc (rawK x) (rawC x) (rawL x) at_ ≠ x := by
  intro e
  rw [enc_bad _ _ _ _ h] at e
  rw [← e] at h
  revert h
  decide
theorem dec_enc (k c l at_ : Int) (h : right k c l = true) : decE (enc k c l at_) at_ = 0 ∧ decK (enc k c l at_) at_ = k ∧ decC (enc k c l at_) at_ = c ∧ decL (enc k c l at_) at_ = l := by
  have b := right_bd k c l h
  have e := enc_good k c l at_ h
  have hm := Sl.seal_mod (k + 4 * c + 256 * l) at_ (by omega) (by omega)
  have ho := (Sl.open_seal (k + 4 * c + 256 * l) at_ (by omega) (by omega)).1
  have rk : rawK (enc k c l at_) = k := by unfold rawK; rw [e, hm]; omega
  have rc : rawC (enc k c l at_) = c := by unfold rawC; rw [e, hm]; omega
  have rl : rawL (enc k c l at_) = l := by unfold rawL; rw [e, hm]; omega
  have r := dec_right (enc k c l at_) at_ (by rw [e]; exact ho) (by rw [rk, rc, rl])
  rw [rk, rc, rl] at r
  exact r
theorem dec0 (at_ : Int) : decK 0 at_ = 0 ∧ decC 0 at_ = 0 ∧ decL 0 at_ = 0 := by
  have e : rawK 0 = 0 ∧ rawC 0 = 0 ∧ rawL 0 = 0 := by decide
  unfold decK decC decL
  rw [e.1, e.2.1, e.2.2]
  simp
theorem decE_in (x at_ : Int) : 0 ≤ decE x at_ ∧ decE x at_ ≤ 26 := by unfold decE; split <;> (try split) <;> omega
theorem not_zero (k c l : Int) (h : right k c l = false) : k ≠ 0 ∨ c ≠ 0 ∨ l ≠ 0 := by
  rcases (show (k = 0 ∧ c = 0 ∧ l = 0) ∨ (k ≠ 0 ∨ c ≠ 0 ∨ l ≠ 0) from by omega) with ⟨rfl, rfl, rfl⟩ | h2
  · revert h; decide
  · exact h2
end Go.Proofs.Ythbkfgafdjcicaa.Bh
