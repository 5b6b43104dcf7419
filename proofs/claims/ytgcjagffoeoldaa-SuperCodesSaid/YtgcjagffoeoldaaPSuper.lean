/- Plain lemmas: superblocks. No program in sight. -/
import Derived.Test.YtgcjagffoeoldaaPBytes
namespace Go.Proofs.Ytgcjagffoeoldaa.Su
set_option linter.unusedVariables false
open Go Go.RowKit
def row (b id : Int) : List Int := [8390047168116913201, 1, b, id, 0, 0, 0]
def crc (b id : Int) : Int := Cr.more 0 (By.bytes (row b id))
theorem crc_bd (b id : Int) : 0 ≤ crc b id ∧ crc b id ≤ 4294967295 := Cr.more_bd 0 _ (by omega) (by omega) (By.bytes_bd _)
/-- what a line is read as: blocks, number, error -/
def okB (l1 l2 l4 l5 l6 : Int) : Prop := l1 = 1 ∧ l4 = 0 ∧ l5 = 0 ∧ l6 = 0 ∧ 2 ≤ l2 ∧ l2 ≤ 256
theorem crc_eq (l1 l2 l3 l4 l5 l6 : Int) (h : okB l1 l2 l4 l5 l6) : Cr.more 0 (By.bytes [8390047168116913201, l1, l2, l3, l4, l5, l6]) = crc l2 l3 := by
  obtain ⟨rfl, rfl, rfl, rfl, _⟩ := h; rfl
instance (l1 l2 l4 l5 l6 : Int) : Decidable (okB l1 l2 l4 l5 l6) := by unfold okB; infer_instance
def sum7 (l1 l2 l3 l4 l5 l6 : Int) : Int := Cr.more 0 (By.bytes [8390047168116913201, l1, l2, l3, l4, l5, l6])
theorem sum7_bd (l1 l2 l3 l4 l5 l6 : Int) : 0 ≤ sum7 l1 l2 l3 l4 l5 l6 ∧ sum7 l1 l2 l3 l4 l5 l6 ≤ 4294967295 := Cr.more_bd 0 _ (by omega) (by omega) (By.bytes_bd _)
theorem sum7_ok (b id : Int) : sum7 1 b id 0 0 0 = crc b id := rfl
def decB (l0 l1 l2 l3 l4 l5 l6 l7 : Int) : Int := if l0 = 8390047168116913201 ∧ l7 = sum7 l1 l2 l3 l4 l5 l6 ∧ okB l1 l2 l4 l5 l6 then l2 else 0
def decN (l0 l1 l2 l3 l4 l5 l6 l7 : Int) : Int := if l0 = 8390047168116913201 ∧ l7 = sum7 l1 l2 l3 l4 l5 l6 ∧ okB l1 l2 l4 l5 l6 then l3 else 0
def decE (l0 l1 l2 l3 l4 l5 l6 l7 : Int) : Int := if l0 = 8390047168116913201 then (if l7 = sum7 l1 l2 l3 l4 l5 l6 then (if okB l1 l2 l4 l5 l6 then 0 else 26) else 25) else 24
theorem dec_magic (l0 l1 l2 l3 l4 l5 l6 l7 : Int) (h : l0 ≠ 8390047168116913201) : decB l0 l1 l2 l3 l4 l5 l6 l7 = 0 ∧ decN l0 l1 l2 l3 l4 l5 l6 l7 = 0 ∧ decE l0 l1 l2 l3 l4 l5 l6 l7 = 24 := by
  unfold decB decN decE
  rw [if_neg (fun x => h x.1), if_neg (fun x => h x.1), if_neg h]
  exact ⟨rfl, rfl, rfl⟩
theorem dec_sum (l1 l2 l3 l4 l5 l6 l7 : Int) (h : l7 ≠ sum7 l1 l2 l3 l4 l5 l6) : decB 8390047168116913201 l1 l2 l3 l4 l5 l6 l7 = 0 ∧ decN 8390047168116913201 l1 l2 l3 l4 l5 l6 l7 = 0 ∧ decE 8390047168116913201 l1 l2 l3 l4 l5 l6 l7 = 25 := by
  unfold decB decN decE
  rw [if_neg (fun x => h x.2.1), if_neg (fun x => h x.2.1), if_pos rfl, if_neg h]
  exact ⟨rfl, rfl, rfl⟩
theorem dec_ok (l1 l2 l3 l4 l5 l6 : Int) (h : okB l1 l2 l4 l5 l6) : decB 8390047168116913201 l1 l2 l3 l4 l5 l6 (sum7 l1 l2 l3 l4 l5 l6) = l2 ∧ decN 8390047168116913201 l1 l2 l3 l4 l5 l6 (sum7 l1 l2 l3 l4 l5 l6) = l3 ∧ decE 8390047168116913201 l1 l2 l3 l4 l5 l6 (sum7 l1 l2 l3 l4 l5 l6) = 0 := by
  unfold decB decN decE
  rw [if_pos ⟨rfl, rfl, h⟩, if_pos ⟨rfl, rfl, h⟩, if_pos rfl, if_pos rfl, if_pos h]
  exact ⟨rfl, rfl, rfl⟩
theorem dec_range (l1 l2 l3 l4 l5 l6 : Int) (h : ¬ okB l1 l2 l4 l5 l6) : decB 8390047168116913201 l1 l2 l3 l4 l5 l6 (sum7 l1 l2 l3 l4 l5 l6) = 0 ∧ decN 8390047168116913201 l1 l2 l3 l4 l5 l6 (sum7 l1 l2 l3 l4 l5 l6) = 0 ∧ decE 8390047168116913201 l1 l2 l3 l4 l5 l6 (sum7 l1 l2 l3 l4 l5 l6) = 26 := by
  unfold decB decN decE
  rw [if_neg (fun x => h x.2.2), if_neg (fun x => h x.2.2), if_pos rfl, if_pos rfl, if_neg h]
  exact ⟨rfl, rfl, rfl⟩
def rightB (b : Int) : Bool := decide (2 ≤ b ∧ b ≤ 256)
theorem rightB_yes (b : Int) (h : 2 ≤ b) (h2 : b ≤ 256) : rightB b = true := by unfold rightB; simp; omega
theorem rightB_no (b : Int) (h : b < 2 ∨ 256 < b) : rightB b = false := by unfold rightB; simp; omega
end Go.Proofs.Ytgcjagffoeoldaa.Su
