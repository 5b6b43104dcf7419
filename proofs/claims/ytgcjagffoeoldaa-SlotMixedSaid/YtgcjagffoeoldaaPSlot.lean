/- Plain lemmas: root slots. No program in sight. -/
import Derived.Test.YtgcjagffoeoldaaPBytes
namespace Go.Proofs.Ytgcjagffoeoldaa.St
set_option linter.unusedVariables false
open Go Go.RowKit
def okR (R : List Int) : Prop := ∀ r ∈ R, 0 ≤ r ∧ r ≤ 131071
instance (R : List Int) : Decidable (okR R) := by unfold okR; infer_instance
def rightB (E : Int) (R : List Int) : Bool := decide (okR R ∧ 0 < E)
theorem rightB_yes (E : Int) (R : List Int) (h : okR R) (h2 : 0 < E) : rightB E R = true := by unfold rightB; simpa using ⟨h, h2⟩
theorem rightB_no (E : Int) (R : List Int) (h : ¬ (okR R ∧ 0 < E)) : rightB E R = false := by unfold rightB; simpa using h
theorem okR_take_succ (R : List Int) (k : Nat) (r : Int) (hr : R[k]? = some r) (h : okR (R.take k)) (h2 : 0 ≤ r ∧ r ≤ 131071) : okR (R.take (k + 1)) := by
  intro x hx
  rw [List.take_add_one, hr] at hx
  rcases List.mem_append.1 hx with hx | hx
  · exact h x hx
  · simp at hx; subst hx; exact h2
theorem okR_not (R : List Int) (k : Nat) (r : Int) (hr : R[k]? = some r) (h2 : ¬ (0 ≤ r ∧ r ≤ 131071)) : ¬ okR R := fun h => h2 (h r (List.mem_of_getElem? hr))
def sum (E a b c d n : Int) : Int := Cr.more 0 (By.bytes [E, a, b, c, d, n, 0])
def sum0 (E a b c d : Int) : Int := sum E a b c d 0
def sum1 (E a b c d : Int) : Int := sum E a b c d 1
theorem sum_bd (E a b c d n : Int) : 0 ≤ sum E a b c d n ∧ sum E a b c d n ≤ 4294967295 := Cr.more_bd 0 _ (by omega) (by omega) (By.bytes_bd _)
theorem sum0_bd (E a b c d : Int) : 0 ≤ sum0 E a b c d ∧ sum0 E a b c d ≤ 4294967295 := sum_bd _ _ _ _ _ _
theorem sum1_bd (E a b c d : Int) : 0 ≤ sum1 E a b c d ∧ sum1 E a b c d ≤ 4294967295 := sum_bd _ _ _ _ _ _
def sum7 (a b c d e f g : Int) : Int := Cr.more 0 (By.bytes [a, b, c, d, e, f, g])
theorem sum7_bd (a b c d e f g : Int) : 0 ≤ sum7 a b c d e f g ∧ sum7 a b c d e f g ≤ 4294967295 := Cr.more_bd 0 _ (by omega) (by omega) (By.bytes_bd _)
def cap (x : Int) : Int := if x ≤ 1099511627776 then x else 1099511627776
theorem cap_in (x : Int) (h : x ≤ 1099511627776) : cap x = x := by unfold cap; rw [if_pos h]
theorem cap_out (x : Int) (h : 1099511627776 < x) : cap x = 1099511627776 := by unfold cap; rw [if_neg (by omega)]
end Go.Proofs.Ytgcjagffoeoldaa.St
