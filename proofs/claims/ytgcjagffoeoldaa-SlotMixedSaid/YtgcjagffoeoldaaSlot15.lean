/- SlotMixed from what comes in. -/
import Derived.Test.YtgcjagffoeoldaaSlot14
namespace Go.Proofs.Ytgcjagffoeoldaa
open Go.RowKit
set_option linter.unusedVariables false
set_option maxHeartbeats 4000000
set_option maxRecDepth 100000
theorem walk_SlotMixed (x y : Int × List Int) (w : World) (hx : x.2.length = 8 ∧ U64s x.1 ∧ ∀ r ∈ x.2, I64 r) (hy : y.2.length = 8 ∧ U64s y.1 ∧ ∀ r ∈ y.2, I64 r) :
    Calls Try.prog 5 #[slotV x.1 x.2, slotV y.1 y.2] w fun e w' => e = .returned (.bool true) ∧ Below w.heap.size w w' := by
  obtain ⟨E, R⟩ := x
  obtain ⟨F, S⟩ := y
  obtain ⟨h8, hE, hR⟩ := hx
  obtain ⟨k8, hF, hS⟩ := hy
  simp only at h8 hE hR k8 hF hS ⊢
  obtain ⟨r0, r1, r2, r3, r4, r5, r6, r7, rfl⟩ := list8 h8
  obtain ⟨s0, s1, s2, s3, s4, s5, s6, s7, rfl⟩ := list8 k8
  cases ha : St.rightB E [r0, r1, r2, r3, r4, r5, r6, r7] with
  | false => exact sm_no1 E F r0 r1 r2 r3 r4 r5 r6 r7 s0 s1 s2 s3 s4 s5 s6 s7 w hE hF hR hS ha
  | true =>
    cases hc : St.rightB F [s0, s1, s2, s3, s4, s5, s6, s7] with
    | false => exact sm_no2 E F r0 r1 r2 r3 r4 r5 r6 r7 s0 s1 s2 s3 s4 s5 s6 s7 w hE hF hR hS ha hc
    | true =>
      obtain ⟨hE0, a0, a1, a2, a3, a4, a5, a6, a7⟩ := rightB_all ha
      obtain ⟨hF0, b0, b1, b2, b3, b4, b5, b6, b7⟩ := rightB_all hc
      obtain ⟨x0, x1, x2, x3, x4, x5, x6, x7, hx⟩ := list8 (dVR_len [E, r0, r1, r2, r3, 0, 0, (St.sum0 E r0 r1 r2 r3), F, s4, s5, s6, s7, 1, 0, (St.sum1 F s4 s5 s6 s7)] rfl)
      exact sm_yes E F r0 r1 r2 r3 r4 r5 r6 r7 s0 s1 s2 s3 s4 s5 s6 s7 w hE hF hR hS ha hc hE0 hF0 a0 a1 a2 a3 a4 a5 a6 a7 b0 b1 b2 b3 b4 b5 b6 b7 x0 x1 x2 x3 x4 x5 x6 x7 hx
end Go.Proofs.Ytgcjagffoeoldaa
