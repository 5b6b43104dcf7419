/- Slots: the contracts as functions of lists. -/
import Derived.Test.YtgcjagffoeoldaaSlot8
namespace Go.Proofs.Ytgcjagffoeoldaa
open Go.RowKit
set_option linter.unusedVariables false
set_option linter.unusedSimpArgs false
set_option maxHeartbeats 4000000
set_option maxRecDepth 100000
open Classical in
noncomputable def dC : List Int → Int
  | [l0, l1, l2, l3, l4, l5, l6, l7, l8, l9, l10, l11, l12, l13, l14, l15] => if l7 ≠ St.sum7 l0 l1 l2 l3 l4 l5 l6 then 25 else if l15 ≠ St.sum7 l8 l9 l10 l11 l12 l13 l14 then 25 else if okD l0 l1 l2 l3 l4 l5 l6 l8 l9 l10 l11 l12 l13 l14 then 0 else 26
  | _ => 0
def dE : List Int → Int
  | [l0, l1, l2, l3, l4, l5, l6, l7, l8, l9, l10, l11, l12, l13, l14, l15] => l0
  | _ => 0
def dR : List Int → List Int
  | [l0, l1, l2, l3, l4, l5, l6, l7, l8, l9, l10, l11, l12, l13, l14, l15] => [l1, l2, l3, l4, l9, l10, l11, l12]
  | _ => [0, 0, 0, 0, 0, 0, 0, 0]
open Classical in
noncomputable def dVE (z : List Int) : Int := if dC z = 0 then dE z else 0
open Classical in
noncomputable def dVR (z : List Int) : List Int := if dC z = 0 then dR z else [0, 0, 0, 0, 0, 0, 0, 0]
theorem list8 {α : Type} {l : List α} (h : l.length = 8) : ∃ r0 r1 r2 r3 r4 r5 r6 r7, l = [r0, r1, r2, r3, r4, r5, r6, r7] := by
  match l, h with
  | [r0, r1, r2, r3, r4, r5, r6, r7], _ => exact ⟨r0, r1, r2, r3, r4, r5, r6, r7, rfl⟩
theorem list16 {α : Type} {l : List α} (h : l.length = 16) : ∃ l0 l1 l2 l3 l4 l5 l6 l7 l8 l9 l10 l11 l12 l13 l14 l15, l = [l0, l1, l2, l3, l4, l5, l6, l7, l8, l9, l10, l11, l12, l13, l14, l15] := by
  match l, h with
  | [l0, l1, l2, l3, l4, l5, l6, l7, l8, l9, l10, l11, l12, l13, l14, l15], _ => exact ⟨l0, l1, l2, l3, l4, l5, l6, l7, l8, l9, l10, l11, l12, l13, l14, l15, rfl⟩
theorem dVR_len (z : List Int) (hz : z.length = 16) : (dVR z).length = 8 := by
  obtain ⟨l0, l1, l2, l3, l4, l5, l6, l7, l8, l9, l10, l11, l12, l13, l14, l15, rfl⟩ := list16 hz
  unfold dVR dR
  split <;> rfl
theorem wfU {z : List Int} (h : Ints .u64 z) {x : Int} (hx : x ∈ z) : U64s x := by
  have := h x hx
  simp [Lit.wf, IntKind.min, IntKind.max, IntKind.signed, IntKind.bits] at this
  exact ⟨by omega, by omega⟩
theorem slDec_any (z : List Int) (w : World) (hz : z.length = 16) (hw : Ints .u64 z) :
    Calls Try.prog 19 #[.agg (z.map (Value.int .u64)).toArray] w fun e w' => e = .returned (.tuple #[slotV (dVE z) (dVR z), .int .i64 (dC z)]) ∧ Below w.heap.size w w' := by
  obtain ⟨l0, l1, l2, l3, l4, l5, l6, l7, l8, l9, l10, l11, l12, l13, l14, l15, rfl⟩ := list16 hz
  have hl0 : U64s l0 := wfU hw (by simp)
  have hl1 : U64s l1 := wfU hw (by simp)
  have hl2 : U64s l2 := wfU hw (by simp)
  have hl3 : U64s l3 := wfU hw (by simp)
  have hl4 : U64s l4 := wfU hw (by simp)
  have hl5 : U64s l5 := wfU hw (by simp)
  have hl6 : U64s l6 := wfU hw (by simp)
  have hl7 : U64s l7 := wfU hw (by simp)
  have hl8 : U64s l8 := wfU hw (by simp)
  have hl9 : U64s l9 := wfU hw (by simp)
  have hl10 : U64s l10 := wfU hw (by simp)
  have hl11 : U64s l11 := wfU hw (by simp)
  have hl12 : U64s l12 := wfU hw (by simp)
  have hl13 : U64s l13 := wfU hw (by simp)
  have hl14 : U64s l14 := wfU hw (by simp)
  have hl15 : U64s l15 := wfU hw (by simp)
  clear hw hz
  by_cases h0 : l7 = St.sum7 l0 l1 l2 l3 l4 l5 l6
  · by_cases h1 : l15 = St.sum7 l8 l9 l10 l11 l12 l13 l14
    · subst h0 h1
      by_cases hok : okD l0 l1 l2 l3 l4 l5 l6 l8 l9 l10 l11 l12 l13 l14
      · have e : dC [l0, l1, l2, l3, l4, l5, l6, St.sum7 l0 l1 l2 l3 l4 l5 l6, l8, l9, l10, l11, l12, l13, l14, St.sum7 l8 l9 l10 l11 l12 l13 l14] = 0 := by simp [dC, hok]
        rw [dVE, dVR, if_pos e, if_pos e, e]
        exact slDec_both l0 l1 l2 l3 l4 l5 l6 l8 l9 l10 l11 l12 l13 l14 w hl0 hl1 hl2 hl3 hl4 hl5 hl6 hl8 hl9 hl10 hl11 hl12 hl13 hl14 _ _ (.inl ⟨hok, rfl, rfl⟩)
      · have e : dC [l0, l1, l2, l3, l4, l5, l6, St.sum7 l0 l1 l2 l3 l4 l5 l6, l8, l9, l10, l11, l12, l13, l14, St.sum7 l8 l9 l10 l11 l12 l13 l14] = 26 := by simp [dC, hok]
        rw [dVE, dVR, e, if_neg (by omega), if_neg (by omega)]
        exact slDec_both l0 l1 l2 l3 l4 l5 l6 l8 l9 l10 l11 l12 l13 l14 w hl0 hl1 hl2 hl3 hl4 hl5 hl6 hl8 hl9 hl10 hl11 hl12 hl13 hl14 _ _ (.inr ⟨hok, rfl, rfl⟩)
    · subst h0
      have e : dC [l0, l1, l2, l3, l4, l5, l6, St.sum7 l0 l1 l2 l3 l4 l5 l6, l8, l9, l10, l11, l12, l13, l14, l15] = 25 := by simp [dC, h1]
      rw [dVE, dVR, e, if_neg (by omega), if_neg (by omega)]
      exact slDec_sum1 l0 l1 l2 l3 l4 l5 l6 l8 l9 l10 l11 l12 l13 l14 l15 w hl0 hl1 hl2 hl3 hl4 hl5 hl6 hl8 hl9 hl10 hl11 hl12 hl13 hl14 hl15 h1
  · have e : dC [l0, l1, l2, l3, l4, l5, l6, l7, l8, l9, l10, l11, l12, l13, l14, l15] = 25 := by simp [dC, h0]
    rw [dVE, dVR, e, if_neg (by omega), if_neg (by omega)]
    exact slDec_sum0 l0 l1 l2 l3 l4 l5 l6 l7 l8 l9 l10 l11 l12 l13 l14 l15 w hl0 hl1 hl2 hl3 hl4 hl5 hl6 hl7 hl8 hl9 hl10 hl11 hl12 hl13 hl14 hl15 h0
theorem rslDec_any (z : List Int) (w : World) (hz : z.length = 16) (hw : Ints .u64 z) :
    Calls Try.prog 20 #[.agg (z.map (Value.int .u64)).toArray] w fun e w' => e = .returned (.tuple #[slotV (dVE z) (dVR z), .int .i64 (dC z)]) ∧ Below w.heap.size w w' := by
  obtain ⟨l0, l1, l2, l3, l4, l5, l6, l7, l8, l9, l10, l11, l12, l13, l14, l15, rfl⟩ := list16 hz
  have hl0 : U64s l0 := wfU hw (by simp)
  have hl1 : U64s l1 := wfU hw (by simp)
  have hl2 : U64s l2 := wfU hw (by simp)
  have hl3 : U64s l3 := wfU hw (by simp)
  have hl4 : U64s l4 := wfU hw (by simp)
  have hl5 : U64s l5 := wfU hw (by simp)
  have hl6 : U64s l6 := wfU hw (by simp)
  have hl7 : U64s l7 := wfU hw (by simp)
  have hl8 : U64s l8 := wfU hw (by simp)
  have hl9 : U64s l9 := wfU hw (by simp)
  have hl10 : U64s l10 := wfU hw (by simp)
  have hl11 : U64s l11 := wfU hw (by simp)
  have hl12 : U64s l12 := wfU hw (by simp)
  have hl13 : U64s l13 := wfU hw (by simp)
  have hl14 : U64s l14 := wfU hw (by simp)
  have hl15 : U64s l15 := wfU hw (by simp)
  clear hw hz
  by_cases h0 : l7 = St.sum7 l0 l1 l2 l3 l4 l5 l6
  · by_cases h1 : l15 = St.sum7 l8 l9 l10 l11 l12 l13 l14
    · subst h0 h1
      by_cases hok : okD l0 l1 l2 l3 l4 l5 l6 l8 l9 l10 l11 l12 l13 l14
      · have e : dC [l0, l1, l2, l3, l4, l5, l6, St.sum7 l0 l1 l2 l3 l4 l5 l6, l8, l9, l10, l11, l12, l13, l14, St.sum7 l8 l9 l10 l11 l12 l13 l14] = 0 := by simp [dC, hok]
        rw [dVE, dVR, if_pos e, if_pos e, e]
        exact rslDec_both l0 l1 l2 l3 l4 l5 l6 l8 l9 l10 l11 l12 l13 l14 w hl0 hl1 hl2 hl3 hl4 hl5 hl6 hl8 hl9 hl10 hl11 hl12 hl13 hl14 _ _ (.inl ⟨hok, rfl, rfl⟩)
      · have e : dC [l0, l1, l2, l3, l4, l5, l6, St.sum7 l0 l1 l2 l3 l4 l5 l6, l8, l9, l10, l11, l12, l13, l14, St.sum7 l8 l9 l10 l11 l12 l13 l14] = 26 := by simp [dC, hok]
        rw [dVE, dVR, e, if_neg (by omega), if_neg (by omega)]
        exact rslDec_both l0 l1 l2 l3 l4 l5 l6 l8 l9 l10 l11 l12 l13 l14 w hl0 hl1 hl2 hl3 hl4 hl5 hl6 hl8 hl9 hl10 hl11 hl12 hl13 hl14 _ _ (.inr ⟨hok, rfl, rfl⟩)
    · subst h0
      have e : dC [l0, l1, l2, l3, l4, l5, l6, St.sum7 l0 l1 l2 l3 l4 l5 l6, l8, l9, l10, l11, l12, l13, l14, l15] = 25 := by simp [dC, h1]
      rw [dVE, dVR, e, if_neg (by omega), if_neg (by omega)]
      exact rslDec_sum1 l0 l1 l2 l3 l4 l5 l6 l8 l9 l10 l11 l12 l13 l14 l15 w hl0 hl1 hl2 hl3 hl4 hl5 hl6 hl8 hl9 hl10 hl11 hl12 hl13 hl14 hl15 h1
  · have e : dC [l0, l1, l2, l3, l4, l5, l6, l7, l8, l9, l10, l11, l12, l13, l14, l15] = 25 := by simp [dC, h0]
    rw [dVE, dVR, e, if_neg (by omega), if_neg (by omega)]
    exact rslDec_sum0 l0 l1 l2 l3 l4 l5 l6 l7 l8 l9 l10 l11 l12 l13 l14 l15 w hl0 hl1 hl2 hl3 hl4 hl5 hl6 hl7 hl8 hl9 hl10 hl11 hl12 hl13 hl14 hl15 h0
theorem slDec_lit (l0 l1 l2 l3 l4 l5 l6 l7 l8 l9 l10 l11 l12 l13 l14 l15 : Int) (w : World) (hw : Ints .u64 [l0, l1, l2, l3, l4, l5, l6, l7, l8, l9, l10, l11, l12, l13, l14, l15]) :
    Calls Try.prog 19 #[.agg #[.int .u64 l0, .int .u64 l1, .int .u64 l2, .int .u64 l3, .int .u64 l4, .int .u64 l5, .int .u64 l6, .int .u64 l7, .int .u64 l8, .int .u64 l9, .int .u64 l10, .int .u64 l11, .int .u64 l12, .int .u64 l13, .int .u64 l14, .int .u64 l15]] w fun e w' => e = .returned (.tuple #[slotV (dVE [l0, l1, l2, l3, l4, l5, l6, l7, l8, l9, l10, l11, l12, l13, l14, l15]) (dVR [l0, l1, l2, l3, l4, l5, l6, l7, l8, l9, l10, l11, l12, l13, l14, l15]), .int .i64 (dC [l0, l1, l2, l3, l4, l5, l6, l7, l8, l9, l10, l11, l12, l13, l14, l15])]) ∧ Below w.heap.size w w' := slDec_any [l0, l1, l2, l3, l4, l5, l6, l7, l8, l9, l10, l11, l12, l13, l14, l15] w rfl hw
theorem rslDec_lit (l0 l1 l2 l3 l4 l5 l6 l7 l8 l9 l10 l11 l12 l13 l14 l15 : Int) (w : World) (hw : Ints .u64 [l0, l1, l2, l3, l4, l5, l6, l7, l8, l9, l10, l11, l12, l13, l14, l15]) :
    Calls Try.prog 20 #[.agg #[.int .u64 l0, .int .u64 l1, .int .u64 l2, .int .u64 l3, .int .u64 l4, .int .u64 l5, .int .u64 l6, .int .u64 l7, .int .u64 l8, .int .u64 l9, .int .u64 l10, .int .u64 l11, .int .u64 l12, .int .u64 l13, .int .u64 l14, .int .u64 l15]] w fun e w' => e = .returned (.tuple #[slotV (dVE [l0, l1, l2, l3, l4, l5, l6, l7, l8, l9, l10, l11, l12, l13, l14, l15]) (dVR [l0, l1, l2, l3, l4, l5, l6, l7, l8, l9, l10, l11, l12, l13, l14, l15]), .int .i64 (dC [l0, l1, l2, l3, l4, l5, l6, l7, l8, l9, l10, l11, l12, l13, l14, l15])]) ∧ Below w.heap.size w w' := rslDec_any [l0, l1, l2, l3, l4, l5, l6, l7, l8, l9, l10, l11, l12, l13, l14, l15] w rfl hw
def encL (E : Int) : List Int → List Int
  | [r0, r1, r2, r3, r4, r5, r6, r7] => if St.rightB E [r0, r1, r2, r3, r4, r5, r6, r7] = true then [E, r0, r1, r2, r3, 0, 0, St.sum0 E r0 r1 r2 r3, E, r4, r5, r6, r7, 1, 0, St.sum1 E r4 r5 r6 r7] else [0, 0, 0, 0, 0, 0, 0, 0, 0, 0, 0, 0, 0, 0, 0, 0]
  | _ => [0, 0, 0, 0, 0, 0, 0, 0, 0, 0, 0, 0, 0, 0, 0, 0]
theorem encL_len (E : Int) (R : List Int) : (encL E R).length = 16 := by
  unfold encL
  split
  · split <;> rfl
  · rfl
theorem rightB_all {E : Int} {r0 r1 r2 r3 r4 r5 r6 r7 : Int} (h : St.rightB E [r0, r1, r2, r3, r4, r5, r6, r7] = true) : 0 < E ∧ (0 ≤ r0 ∧ r0 ≤ 131071) ∧ (0 ≤ r1 ∧ r1 ≤ 131071) ∧ (0 ≤ r2 ∧ r2 ≤ 131071) ∧ (0 ≤ r3 ∧ r3 ≤ 131071) ∧ (0 ≤ r4 ∧ r4 ≤ 131071) ∧ (0 ≤ r5 ∧ r5 ≤ 131071) ∧ (0 ≤ r6 ∧ r6 ≤ 131071) ∧ (0 ≤ r7 ∧ r7 ≤ 131071) := by
  unfold St.rightB St.okR at h
  simp only [decide_eq_true_eq, List.mem_cons, List.not_mem_nil, or_false, forall_eq_or_imp, forall_eq] at h
  omega
theorem slEnc_any (E : Int) (R : List Int) (w : World) (hl : R.length = 8) (hE : U64s E) (hR : ∀ r ∈ R, I64 r) :
    Calls Try.prog 24 #[slotV E R] w fun e w' => e = .returned (.agg ((encL E R).map (Value.int .u64)).toArray) ∧ Below w.heap.size w w' := by
  obtain ⟨r0, r1, r2, r3, r4, r5, r6, r7, rfl⟩ := list8 hl
  cases hr : St.rightB E [r0, r1, r2, r3, r4, r5, r6, r7] with
  | false =>
    rw [show encL E [r0, r1, r2, r3, r4, r5, r6, r7] = [0, 0, 0, 0, 0, 0, 0, 0, 0, 0, 0, 0, 0, 0, 0, 0] from by simp [encL, hr]]
    exact slEnc_no E r0 r1 r2 r3 r4 r5 r6 r7 w hE hR hr
  | true =>
    obtain ⟨a, b0, b1, b2, b3, b4, b5, b6, b7⟩ := rightB_all hr
    rw [show encL E [r0, r1, r2, r3, r4, r5, r6, r7] = [E, r0, r1, r2, r3, 0, 0, St.sum0 E r0 r1 r2 r3, E, r4, r5, r6, r7, 1, 0, St.sum1 E r4 r5 r6 r7] from by simp [encL, hr]]
    exact slEnc_yes E r0 r1 r2 r3 r4 r5 r6 r7 w hE a b0 b1 b2 b3 b4 b5 b6 b7
theorem rslEnc_any (E : Int) (R : List Int) (w : World) (hl : R.length = 8) (hE : U64s E) (hR : ∀ r ∈ R, I64 r) :
    Calls Try.prog 25 #[slotV E R] w fun e w' => e = .returned (.agg ((encL E R).map (Value.int .u64)).toArray) ∧ Below w.heap.size w w' := by
  obtain ⟨r0, r1, r2, r3, r4, r5, r6, r7, rfl⟩ := list8 hl
  cases hr : St.rightB E [r0, r1, r2, r3, r4, r5, r6, r7] with
  | false =>
    rw [show encL E [r0, r1, r2, r3, r4, r5, r6, r7] = [0, 0, 0, 0, 0, 0, 0, 0, 0, 0, 0, 0, 0, 0, 0, 0] from by simp [encL, hr]]
    exact rslEnc_no E r0 r1 r2 r3 r4 r5 r6 r7 w hE hR hr
  | true =>
    obtain ⟨a, b0, b1, b2, b3, b4, b5, b6, b7⟩ := rightB_all hr
    rw [show encL E [r0, r1, r2, r3, r4, r5, r6, r7] = [E, r0, r1, r2, r3, 0, 0, St.sum0 E r0 r1 r2 r3, E, r4, r5, r6, r7, 1, 0, St.sum1 E r4 r5 r6 r7] from by simp [encL, hr]]
    exact rslEnc_yes E r0 r1 r2 r3 r4 r5 r6 r7 w hE a b0 b1 b2 b3 b4 b5 b6 b7
theorem slRight_all (E : Int) (R : List Int) (w : World) (hl : R.length = 8) (hE : U64s E) (hR : ∀ r ∈ R, I64 r) :
    Calls Try.prog 21 #[slotV E R] w fun e w' => e = .returned (.bool (St.rightB E R)) ∧ Below w.heap.size w w' := by
  obtain ⟨r0, r1, r2, r3, r4, r5, r6, r7, rfl⟩ := list8 hl
  exact slRight_any E r0 r1 r2 r3 r4 r5 r6 r7 w hE hR
theorem rslRight_all (E : Int) (R : List Int) (w : World) (hl : R.length = 8) (hE : U64s E) (hR : ∀ r ∈ R, I64 r) :
    Calls Try.prog 22 #[slotV E R] w fun e w' => e = .returned (.bool (St.rightB E R)) ∧ Below w.heap.size w w' := by
  obtain ⟨r0, r1, r2, r3, r4, r5, r6, r7, rfl⟩ := list8 hl
  exact rslRight_any E r0 r1 r2 r3 r4 r5 r6 r7 w hE hR
theorem slEnc_lit (E r0 r1 r2 r3 r4 r5 r6 r7 : Int) (w : World) (hE : U64s E) (hR : ∀ r ∈ [r0, r1, r2, r3, r4, r5, r6, r7], I64 r) :
    Calls Try.prog 24 #[.agg #[.int .u64 E, .int .i64 r0, .int .i64 r1, .int .i64 r2, .int .i64 r3, .int .i64 r4, .int .i64 r5, .int .i64 r6, .int .i64 r7]] w fun e w' => e = .returned (.agg ((encL E [r0, r1, r2, r3, r4, r5, r6, r7]).map (Value.int .u64)).toArray) ∧ Below w.heap.size w w' := slEnc_any E [r0, r1, r2, r3, r4, r5, r6, r7] w rfl hE hR
theorem rslEnc_lit (E r0 r1 r2 r3 r4 r5 r6 r7 : Int) (w : World) (hE : U64s E) (hR : ∀ r ∈ [r0, r1, r2, r3, r4, r5, r6, r7], I64 r) :
    Calls Try.prog 25 #[.agg #[.int .u64 E, .int .i64 r0, .int .i64 r1, .int .i64 r2, .int .i64 r3, .int .i64 r4, .int .i64 r5, .int .i64 r6, .int .i64 r7]] w fun e w' => e = .returned (.agg ((encL E [r0, r1, r2, r3, r4, r5, r6, r7]).map (Value.int .u64)).toArray) ∧ Below w.heap.size w w' := rslEnc_any E [r0, r1, r2, r3, r4, r5, r6, r7] w rfl hE hR
end Go.Proofs.Ytgcjagffoeoldaa
