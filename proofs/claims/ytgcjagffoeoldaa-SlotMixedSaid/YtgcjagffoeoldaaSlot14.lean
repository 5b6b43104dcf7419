/- SlotMixed walked. -/
import Derived.Test.YtgcjagffoeoldaaSlot13
import Derived.Test.YtgcjagffoeoldaaReg2
import Derived.Deep.Cut
import Derived.Deep.CutRange
namespace Go.Proofs.Ytgcjagffoeoldaa
open Go.RowKit
set_option linter.unusedVariables false
set_option linter.unusedSimpArgs false
set_option maxHeartbeats 8000000
set_option maxRecDepth 100000
theorem eq_lit_slot (E x0 x1 x2 x3 x4 x5 x6 x7 : Int) (W : World) : (Op.equalIn 10000 38 (.agg #[.int .u64 E, .int .i64 x0, .int .i64 x1, .int .i64 x2, .int .i64 x3, .int .i64 x4, .int .i64 x5, .int .i64 x6, .int .i64 x7]) (.agg #[.int .u64 E, .int .i64 x0, .int .i64 x1, .int .i64 x2, .int .i64 x3, .int .i64 x4, .int .i64 x5, .int .i64 x6, .int .i64 x7])).run Try.prog W = .ok true W := by
  have h := eq_slot E E [x0, x1, x2, x3, x4, x5, x6, x7] [x0, x1, x2, x3, x4, x5, x6, x7] rfl rfl W
  rw [eqB_yes _ _ rfl] at h
  simp only [decide_true, Bool.true_and] at h
  exact h
theorem right_of {E : Int} {r0 r1 r2 r3 r4 r5 r6 r7 : Int} (hE : 0 < E) (hr0 : 0 ≤ r0 ∧ r0 ≤ 131071) (hr1 : 0 ≤ r1 ∧ r1 ≤ 131071) (hr2 : 0 ≤ r2 ∧ r2 ≤ 131071) (hr3 : 0 ≤ r3 ∧ r3 ≤ 131071) (hr4 : 0 ≤ r4 ∧ r4 ≤ 131071) (hr5 : 0 ≤ r5 ∧ r5 ≤ 131071) (hr6 : 0 ≤ r6 ∧ r6 ≤ 131071) (hr7 : 0 ≤ r7 ∧ r7 ≤ 131071) : St.rightB E [r0, r1, r2, r3, r4, r5, r6, r7] = true := by
  unfold St.rightB St.okR
  simp only [decide_eq_true_eq, List.mem_cons, List.not_mem_nil, or_false, forall_eq_or_imp, forall_eq]
  omega
open Classical in
theorem dC_mixed (E F r0 r1 r2 r3 r4 r5 r6 r7 s0 s1 s2 s3 s4 s5 s6 s7 : Int) (hE : 0 < E) (hr0 : 0 ≤ r0 ∧ r0 ≤ 131071) (hr1 : 0 ≤ r1 ∧ r1 ≤ 131071) (hr2 : 0 ≤ r2 ∧ r2 ≤ 131071) (hr3 : 0 ≤ r3 ∧ r3 ≤ 131071) (hr4 : 0 ≤ r4 ∧ r4 ≤ 131071) (hr5 : 0 ≤ r5 ∧ r5 ≤ 131071) (hr6 : 0 ≤ r6 ∧ r6 ≤ 131071) (hr7 : 0 ≤ r7 ∧ r7 ≤ 131071) (hs0 : 0 ≤ s0 ∧ s0 ≤ 131071) (hs1 : 0 ≤ s1 ∧ s1 ≤ 131071) (hs2 : 0 ≤ s2 ∧ s2 ≤ 131071) (hs3 : 0 ≤ s3 ∧ s3 ≤ 131071) (hs4 : 0 ≤ s4 ∧ s4 ≤ 131071) (hs5 : 0 ≤ s5 ∧ s5 ≤ 131071) (hs6 : 0 ≤ s6 ∧ s6 ≤ 131071) (hs7 : 0 ≤ s7 ∧ s7 ≤ 131071) : dC [E, r0, r1, r2, r3, 0, 0, (St.sum0 E r0 r1 r2 r3), F, s4, s5, s6, s7, 1, 0, (St.sum1 F s4 s5 s6 s7)] = if E = F then 0 else 26 := by
  have a1 : St.sum0 E r0 r1 r2 r3 = St.sum7 E r0 r1 r2 r3 0 0 := rfl
  have a2 : St.sum1 F s4 s5 s6 s7 = St.sum7 F s4 s5 s6 s7 1 0 := rfl
  have hr := right_of hE hr0 hr1 hr2 hr3 hs4 hs5 hs6 hs7
  simp only [dC, ← a1, ← a2, ne_eq, not_true_eq_false, if_false]
  congr 1
  unfold okD
  simp only [hr, true_and, and_true, and_self]
  exact propext ⟨fun h => h.symm, fun h => h.symm⟩
theorem dec_enc (E r0 r1 r2 r3 r4 r5 r6 r7 : Int) (hE : 0 < E) (hr0 : 0 ≤ r0 ∧ r0 ≤ 131071) (hr1 : 0 ≤ r1 ∧ r1 ≤ 131071) (hr2 : 0 ≤ r2 ∧ r2 ≤ 131071) (hr3 : 0 ≤ r3 ∧ r3 ≤ 131071) (hr4 : 0 ≤ r4 ∧ r4 ≤ 131071) (hr5 : 0 ≤ r5 ∧ r5 ≤ 131071) (hr6 : 0 ≤ r6 ∧ r6 ≤ 131071) (hr7 : 0 ≤ r7 ∧ r7 ≤ 131071) : dC [E, r0, r1, r2, r3, 0, 0, (St.sum0 E r0 r1 r2 r3), E, r4, r5, r6, r7, 1, 0, (St.sum1 E r4 r5 r6 r7)] = 0 ∧ dVE [E, r0, r1, r2, r3, 0, 0, (St.sum0 E r0 r1 r2 r3), E, r4, r5, r6, r7, 1, 0, (St.sum1 E r4 r5 r6 r7)] = E ∧ dVR [E, r0, r1, r2, r3, 0, 0, (St.sum0 E r0 r1 r2 r3), E, r4, r5, r6, r7, 1, 0, (St.sum1 E r4 r5 r6 r7)] = [r0, r1, r2, r3, r4, r5, r6, r7] := by
  have h := dC_mixed E E r0 r1 r2 r3 r4 r5 r6 r7 r0 r1 r2 r3 r4 r5 r6 r7 hE hr0 hr1 hr2 hr3 hr4 hr5 hr6 hr7 hr0 hr1 hr2 hr3 hr4 hr5 hr6 hr7
  rw [if_pos rfl] at h
  refine ⟨h, ?_, ?_⟩
  · unfold dVE; rw [if_pos h]; rfl
  · unfold dVR; rw [if_pos h]; rfl
theorem sm_no1 (E F r0 r1 r2 r3 r4 r5 r6 r7 s0 s1 s2 s3 s4 s5 s6 s7 : Int) (w : World) (hE : U64s E) (hF : U64s F) (hR : ∀ r ∈ [r0, r1, r2, r3, r4, r5, r6, r7], I64 r) (hS' : ∀ r ∈ [s0, s1, s2, s3, s4, s5, s6, s7], I64 r) (ha : St.rightB E [r0, r1, r2, r3, r4, r5, r6, r7] = false) :
    Calls Try.prog 5 #[.agg #[.int .u64 E, .int .i64 r0, .int .i64 r1, .int .i64 r2, .int .i64 r3, .int .i64 r4, .int .i64 r5, .int .i64 r6, .int .i64 r7], .agg #[.int .u64 F, .int .i64 s0, .int .i64 s1, .int .i64 s2, .int .i64 s3, .int .i64 s4, .int .i64 s5, .int .i64 s6, .int .i64 s7]] w fun e w' => e = .returned (.bool true) ∧ Below w.heap.size w w' := by
  have HE := Lib.hid (show 0 ≤ E ∧ E ≤ 18446744073709551615 from hE)
  have HF := Lib.hid (show 0 ≤ F ∧ F ≤ 18446744073709551615 from hF)
  have HR := Lib.hid hR
  have HS := Lib.hid hS'
  have HA := Lib.hid ha
  clear ha
  clear hE hF hR hS'
  have XS := Lib.hid ((Blk.new w #[.int .u64 E, .int .i64 r0, .int .i64 r1, .int .i64 r2, .int .i64 r3, .int .i64 r4, .int .i64 r5, .int .i64 r6, .int .i64 r7] 38).alloc (.cells #[.int .u64 F, .int .i64 s0, .int .i64 s1, .int .i64 s2, .int .i64 s3, .int .i64 s4, .int .i64 s5, .int .i64 s6, .int .i64 s7] 38))
  have XT := Lib.hid (Blk.new1 w (.cells #[.int .u64 E, .int .i64 r0, .int .i64 r1, .int .i64 r2, .int .i64 r3, .int .i64 r4, .int .i64 r5, .int .i64 r6, .int .i64 r7] 38) #[.int .u64 F, .int .i64 s0, .int .i64 s1, .int .i64 s2, .int .i64 s3, .int .i64 s4, .int .i64 s5, .int .i64 s6, .int .i64 s7] 38)
  have hB : Below w.heap.size w ((w.alloc (.cells #[.int .u64 E, .int .i64 r0, .int .i64 r1, .int .i64 r2, .int .i64 r3, .int .i64 r4, .int .i64 r5, .int .i64 r6, .int .i64 r7] 38)).alloc (.cells #[.int .u64 F, .int .i64 s0, .int .i64 s1, .int .i64 s2, .int .i64 s3, .int .i64 s4, .int .i64 s5, .int .i64 s6, .int .i64 s7] 38)) := ((Below.refl _ _).alloc (Nat.le_refl _) _).alloc (by simp) _
  generalize hZ : ((w.alloc (.cells #[.int .u64 E, .int .i64 r0, .int .i64 r1, .int .i64 r2, .int .i64 r3, .int .i64 r4, .int .i64 r5, .int .i64 r6, .int .i64 r7] 38)).alloc (.cells #[.int .u64 F, .int .i64 s0, .int .i64 s1, .int .i64 s2, .int .i64 s3, .int .i64 s4, .int .i64 s5, .int .i64 s6, .int .i64 s7] 38)) = Z at *
  go_enter Try.func5, Try.ntmps5
  go_wp2_with (first
    | (go_at_call 18; (with_reducible refine (awake17_any _).mono ?_); rintro e w1 ⟨rfl, hb1⟩; have XS1 := XS.out.below hb1 XS.out.lt; have XT1 := XT.out.below hb1 XT.out.lt; have hB1 := hB.trans (hb1.mono hB.size); clear hb1)
    | (refine wpList_load_row (P := Try.prog) rfl 38 (.tmp 2) rfl w.heap.size rfl _ _ (0, 0) _ XS1 Try.underlying38 rfl (by kernel_rfl) ?_)
    | (go_at_call 21; (with_reducible refine (slRight_any E r0 r1 r2 r3 r4 r5 r6 r7 _ HE.out HR.out).mono ?_); rintro e w2 ⟨rfl, hb2⟩; rw [HA.out]; have XS2 := XS1.below hb2 XS1.lt; have XT2 := XT1.below hb2 XT1.lt; have hB2 := hB1.trans (hb2.mono hB1.size); have t9 := s9 XT2 XT2.lt (Below.refl _ _); clear hb2 XS1 XT1 hB1))
  go_ret
  exact ⟨by first | rfl | exact ret_bool rfl, hB2⟩
theorem sm_no2 (E F r0 r1 r2 r3 r4 r5 r6 r7 s0 s1 s2 s3 s4 s5 s6 s7 : Int) (w : World) (hE : U64s E) (hF : U64s F) (hR : ∀ r ∈ [r0, r1, r2, r3, r4, r5, r6, r7], I64 r) (hS' : ∀ r ∈ [s0, s1, s2, s3, s4, s5, s6, s7], I64 r) (ha : St.rightB E [r0, r1, r2, r3, r4, r5, r6, r7] = true) (hc : St.rightB F [s0, s1, s2, s3, s4, s5, s6, s7] = false) :
    Calls Try.prog 5 #[.agg #[.int .u64 E, .int .i64 r0, .int .i64 r1, .int .i64 r2, .int .i64 r3, .int .i64 r4, .int .i64 r5, .int .i64 r6, .int .i64 r7], .agg #[.int .u64 F, .int .i64 s0, .int .i64 s1, .int .i64 s2, .int .i64 s3, .int .i64 s4, .int .i64 s5, .int .i64 s6, .int .i64 s7]] w fun e w' => e = .returned (.bool true) ∧ Below w.heap.size w w' := by
  have HE := Lib.hid (show 0 ≤ E ∧ E ≤ 18446744073709551615 from hE)
  have HF := Lib.hid (show 0 ≤ F ∧ F ≤ 18446744073709551615 from hF)
  have HR := Lib.hid hR
  have HS := Lib.hid hS'
  have HA := Lib.hid ha
  have HC := Lib.hid hc
  clear ha hc
  clear hE hF hR hS'
  have XS := Lib.hid ((Blk.new w #[.int .u64 E, .int .i64 r0, .int .i64 r1, .int .i64 r2, .int .i64 r3, .int .i64 r4, .int .i64 r5, .int .i64 r6, .int .i64 r7] 38).alloc (.cells #[.int .u64 F, .int .i64 s0, .int .i64 s1, .int .i64 s2, .int .i64 s3, .int .i64 s4, .int .i64 s5, .int .i64 s6, .int .i64 s7] 38))
  have XT := Lib.hid (Blk.new1 w (.cells #[.int .u64 E, .int .i64 r0, .int .i64 r1, .int .i64 r2, .int .i64 r3, .int .i64 r4, .int .i64 r5, .int .i64 r6, .int .i64 r7] 38) #[.int .u64 F, .int .i64 s0, .int .i64 s1, .int .i64 s2, .int .i64 s3, .int .i64 s4, .int .i64 s5, .int .i64 s6, .int .i64 s7] 38)
  have hB : Below w.heap.size w ((w.alloc (.cells #[.int .u64 E, .int .i64 r0, .int .i64 r1, .int .i64 r2, .int .i64 r3, .int .i64 r4, .int .i64 r5, .int .i64 r6, .int .i64 r7] 38)).alloc (.cells #[.int .u64 F, .int .i64 s0, .int .i64 s1, .int .i64 s2, .int .i64 s3, .int .i64 s4, .int .i64 s5, .int .i64 s6, .int .i64 s7] 38)) := ((Below.refl _ _).alloc (Nat.le_refl _) _).alloc (by simp) _
  generalize hZ : ((w.alloc (.cells #[.int .u64 E, .int .i64 r0, .int .i64 r1, .int .i64 r2, .int .i64 r3, .int .i64 r4, .int .i64 r5, .int .i64 r6, .int .i64 r7] 38)).alloc (.cells #[.int .u64 F, .int .i64 s0, .int .i64 s1, .int .i64 s2, .int .i64 s3, .int .i64 s4, .int .i64 s5, .int .i64 s6, .int .i64 s7] 38)) = Z at *
  go_enter Try.func5, Try.ntmps5
  go_wp2_with (first
    | (go_at_call 18; (with_reducible refine (awake17_any _).mono ?_); rintro e w1 ⟨rfl, hb1⟩; have XS1 := XS.out.below hb1 XS.out.lt; have XT1 := XT.out.below hb1 XT.out.lt; have hB1 := hB.trans (hb1.mono hB.size); clear hb1)
    | (refine wpList_load_row (P := Try.prog) rfl 38 (.tmp 2) rfl w.heap.size rfl _ _ (0, 0) _ XS1 Try.underlying38 rfl (by kernel_rfl) ?_)
    | (go_at_call 21; (with_reducible refine (slRight_any E r0 r1 r2 r3 r4 r5 r6 r7 _ HE.out HR.out).mono ?_); rintro e w2 ⟨rfl, hb2⟩; rw [HA.out]; have XS2 := XS1.below hb2 XS1.lt; have XT2 := XT1.below hb2 XT1.lt; have hB2 := hB1.trans (hb2.mono hB1.size); have t9 := s9 XT2 XT2.lt (Below.refl _ _); clear hb2 XS1 XT1 hB1)
    | (go_at_call 21; (with_reducible refine (slRight_any F s0 s1 s2 s3 s4 s5 s6 s7 _ HF.out HS.out).mono ?_); rintro e wz ⟨rfl, hb3⟩; rw [HC.out]; have XS3 := XS2.below hb3 XS2.lt; have XT3 := XT2.below hb3 XT2.lt; have hB3 := hB2.trans (hb3.mono hB2.size); clear hb3 XS2 XT2 hB2 t9))
  go_ret
  exact ⟨by first | rfl | exact ret_bool rfl, hB3⟩
theorem sm_yes (E F r0 r1 r2 r3 r4 r5 r6 r7 s0 s1 s2 s3 s4 s5 s6 s7 : Int) (w : World) (hE : U64s E) (hF : U64s F) (hR : ∀ r ∈ [r0, r1, r2, r3, r4, r5, r6, r7], I64 r) (hS' : ∀ r ∈ [s0, s1, s2, s3, s4, s5, s6, s7], I64 r) (ha : St.rightB E [r0, r1, r2, r3, r4, r5, r6, r7] = true) (hc : St.rightB F [s0, s1, s2, s3, s4, s5, s6, s7] = true) (hE0 : 0 < E) (hF0 : 0 < F) (hr0 : 0 ≤ r0 ∧ r0 ≤ 131071) (hr1 : 0 ≤ r1 ∧ r1 ≤ 131071) (hr2 : 0 ≤ r2 ∧ r2 ≤ 131071) (hr3 : 0 ≤ r3 ∧ r3 ≤ 131071) (hr4 : 0 ≤ r4 ∧ r4 ≤ 131071) (hr5 : 0 ≤ r5 ∧ r5 ≤ 131071) (hr6 : 0 ≤ r6 ∧ r6 ≤ 131071) (hr7 : 0 ≤ r7 ∧ r7 ≤ 131071) (hs0 : 0 ≤ s0 ∧ s0 ≤ 131071) (hs1 : 0 ≤ s1 ∧ s1 ≤ 131071) (hs2 : 0 ≤ s2 ∧ s2 ≤ 131071) (hs3 : 0 ≤ s3 ∧ s3 ≤ 131071) (hs4 : 0 ≤ s4 ∧ s4 ≤ 131071) (hs5 : 0 ≤ s5 ∧ s5 ≤ 131071) (hs6 : 0 ≤ s6 ∧ s6 ≤ 131071) (hs7 : 0 ≤ s7 ∧ s7 ≤ 131071) (x0 x1 x2 x3 x4 x5 x6 x7 : Int) (hx : dVR [E, r0, r1, r2, r3, 0, 0, (St.sum0 E r0 r1 r2 r3), F, s4, s5, s6, s7, 1, 0, (St.sum1 F s4 s5 s6 s7)] = [x0, x1, x2, x3, x4, x5, x6, x7]) :
    Calls Try.prog 5 #[.agg #[.int .u64 E, .int .i64 r0, .int .i64 r1, .int .i64 r2, .int .i64 r3, .int .i64 r4, .int .i64 r5, .int .i64 r6, .int .i64 r7], .agg #[.int .u64 F, .int .i64 s0, .int .i64 s1, .int .i64 s2, .int .i64 s3, .int .i64 s4, .int .i64 s5, .int .i64 s6, .int .i64 s7]] w fun e w' => e = .returned (.bool true) ∧ Below w.heap.size w w' := by
  have HE := Lib.hid (show 0 ≤ E ∧ E ≤ 18446744073709551615 from hE)
  have HF := Lib.hid (show 0 ≤ F ∧ F ≤ 18446744073709551615 from hF)
  have HR := Lib.hid hR
  have HS := Lib.hid hS'
  have HA := Lib.hid ha
  have HC := Lib.hid hc
  have HDC := Lib.hid (dC_mixed E F r0 r1 r2 r3 r4 r5 r6 r7 s0 s1 s2 s3 s4 s5 s6 s7 hE0 hr0 hr1 hr2 hr3 hr4 hr5 hr6 hr7 hs0 hs1 hs2 hs3 hs4 hs5 hs6 hs7)
  obtain ⟨d1, d2, d3⟩ := dec_enc E r0 r1 r2 r3 r4 r5 r6 r7 hE0 hr0 hr1 hr2 hr3 hr4 hr5 hr6 hr7
  have HD1 := Lib.hid d1
  have HV : Hid (slotV (dVE [E, r0, r1, r2, r3, 0, 0, (St.sum0 E r0 r1 r2 r3), E, r4, r5, r6, r7, 1, 0, (St.sum1 E r4 r5 r6 r7)]) (dVR [E, r0, r1, r2, r3, 0, 0, (St.sum0 E r0 r1 r2 r3), E, r4, r5, r6, r7, 1, 0, (St.sum1 E r4 r5 r6 r7)]) = .agg #[.int .u64 E, .int .i64 r0, .int .i64 r1, .int .i64 r2, .int .i64 r3, .int .i64 r4, .int .i64 r5, .int .i64 r6, .int .i64 r7]) := Lib.hid (by rw [d2, d3]; rfl)
  have HU : Hid (slotV (dVE [E, r0, r1, r2, r3, 0, 0, (St.sum0 E r0 r1 r2 r3), F, s4, s5, s6, s7, 1, 0, (St.sum1 F s4 s5 s6 s7)]) (dVR [E, r0, r1, r2, r3, 0, 0, (St.sum0 E r0 r1 r2 r3), F, s4, s5, s6, s7, 1, 0, (St.sum1 F s4 s5 s6 s7)]) = .agg #[.int .u64 (dVE [E, r0, r1, r2, r3, 0, 0, (St.sum0 E r0 r1 r2 r3), F, s4, s5, s6, s7, 1, 0, (St.sum1 F s4 s5 s6 s7)]), .int .i64 x0, .int .i64 x1, .int .i64 x2, .int .i64 x3, .int .i64 x4, .int .i64 x5, .int .i64 x6, .int .i64 x7]) := Lib.hid (by rw [hx]; rfl)
  have heqS := eq_lit_slot E r0 r1 r2 r3 r4 r5 r6 r7
  have b0 := St.sum0_bd E r0 r1 r2 r3
  have b1 := St.sum1_bd E r4 r5 r6 r7
  have b2 := St.sum1_bd F s4 s5 s6 s7
  have HWA : Hid (Ints .u64 [E, r0, r1, r2, r3, 0, 0, (St.sum0 E r0 r1 r2 r3), E, r4, r5, r6, r7, 1, 0, (St.sum1 E r4 r5 r6 r7)]) := Lib.hid (by
    intro x hx
    apply wf_u64
    unfold U64s at hE
    simp only [List.mem_cons, List.not_mem_nil, or_false] at hx
    omega)
  have HWM : Hid (Ints .u64 [E, r0, r1, r2, r3, 0, 0, (St.sum0 E r0 r1 r2 r3), F, s4, s5, s6, s7, 1, 0, (St.sum1 F s4 s5 s6 s7)]) := Lib.hid (by
    intro x hx
    apply wf_u64
    unfold U64s at hE hF
    simp only [List.mem_cons, List.not_mem_nil, or_false] at hx
    omega)
  clear ha hc hx d1 d2 d3
  clear hE hF hR hS'
  have XS := Lib.hid ((Blk.new w #[.int .u64 E, .int .i64 r0, .int .i64 r1, .int .i64 r2, .int .i64 r3, .int .i64 r4, .int .i64 r5, .int .i64 r6, .int .i64 r7] 38).alloc (.cells #[.int .u64 F, .int .i64 s0, .int .i64 s1, .int .i64 s2, .int .i64 s3, .int .i64 s4, .int .i64 s5, .int .i64 s6, .int .i64 s7] 38))
  have XT := Lib.hid (Blk.new1 w (.cells #[.int .u64 E, .int .i64 r0, .int .i64 r1, .int .i64 r2, .int .i64 r3, .int .i64 r4, .int .i64 r5, .int .i64 r6, .int .i64 r7] 38) #[.int .u64 F, .int .i64 s0, .int .i64 s1, .int .i64 s2, .int .i64 s3, .int .i64 s4, .int .i64 s5, .int .i64 s6, .int .i64 s7] 38)
  have hB : Below w.heap.size w ((w.alloc (.cells #[.int .u64 E, .int .i64 r0, .int .i64 r1, .int .i64 r2, .int .i64 r3, .int .i64 r4, .int .i64 r5, .int .i64 r6, .int .i64 r7] 38)).alloc (.cells #[.int .u64 F, .int .i64 s0, .int .i64 s1, .int .i64 s2, .int .i64 s3, .int .i64 s4, .int .i64 s5, .int .i64 s6, .int .i64 s7] 38)) := ((Below.refl _ _).alloc (Nat.le_refl _) _).alloc (by simp) _
  generalize hZ : ((w.alloc (.cells #[.int .u64 E, .int .i64 r0, .int .i64 r1, .int .i64 r2, .int .i64 r3, .int .i64 r4, .int .i64 r5, .int .i64 r6, .int .i64 r7] 38)).alloc (.cells #[.int .u64 F, .int .i64 s0, .int .i64 s1, .int .i64 s2, .int .i64 s3, .int .i64 s4, .int .i64 s5, .int .i64 s6, .int .i64 s7] 38)) = Z at *
  go_enter Try.func5, Try.ntmps5
  go_upto_region 5 with (first
    | (go_at_call 18; (with_reducible refine (awake17_any _).mono ?_); rintro e w1 ⟨rfl, hb1⟩; have XS1 := XS.out.below hb1 XS.out.lt; have XT1 := XT.out.below hb1 XT.out.lt; have hB1 := hB.trans (hb1.mono hB.size); clear hb1)
    | (refine wpList_load_row (P := Try.prog) rfl 38 (.tmp 2) rfl w.heap.size rfl _ _ (0, 0) _ XS1 Try.underlying38 rfl (by kernel_rfl) ?_)
    | (go_at_call 21; (with_reducible refine (slRight_any E r0 r1 r2 r3 r4 r5 r6 r7 _ HE.out HR.out).mono ?_); rintro e w2 ⟨rfl, hb2⟩; rw [HA.out]; have XS2 := XS1.below hb2 XS1.lt; have XT2 := XT1.below hb2 XT1.lt; have hB2 := hB1.trans (hb2.mono hB1.size); have t9 := s9 XT2 XT2.lt (Below.refl _ _); clear hb2 XS1 XT1 hB1)
    | (go_at_call 21; (with_reducible refine (slRight_any F s0 s1 s2 s3 s4 s5 s6 s7 _ HF.out HS.out).mono ?_); rintro e wz ⟨rfl, hb3⟩; rw [HC.out]; have XS3 := XS2.below hb3 XS2.lt; have XT3 := XT2.below hb3 XT2.lt; have hB3 := hB2.trans (hb3.mono hB2.size); clear hb3 XS2 XT2 hB2 t9))
  clear hZ
  have OA : Hid ((#[.int .u64 E, .int .u64 r0, .int .u64 r1, .int .u64 r2, .int .u64 r3, .int .u64 0, .int .u64 0, .int .u64 (St.sum0 E r0 r1 r2 r3), .int .u64 E, .int .u64 r4, .int .u64 r5, .int .u64 r6, .int .u64 r7, .int .u64 1, .int .u64 0, .int .u64 (St.sum1 E r4 r5 r6 r7)] : Array Value).all (·.oneCell') = true) := Lib.hid (by simp [Value.oneCell'])
  have OB : Hid ((#[.int .u64 F, .int .u64 s0, .int .u64 s1, .int .u64 s2, .int .u64 s3, .int .u64 0, .int .u64 0, .int .u64 (St.sum0 F s0 s1 s2 s3), .int .u64 F, .int .u64 s4, .int .u64 s5, .int .u64 s6, .int .u64 s7, .int .u64 1, .int .u64 0, .int .u64 (St.sum1 F s4 s5 s6 s7)] : Array Value).all (·.oneCell') = true) := Lib.hid (by simp [Value.oneCell'])
  have OI : Hid ((Try.prog.info? 39).map (·.size) = some 16) := Lib.hid (by kernel_rfl)
  have h3 := Below.refl wz.heap.size wz
  go_cut [5, 6] from 23 to 26 (fun t5 t6 wx => ∃ p q : Nat, t5 = .pointer (some ⟨p, 0, none⟩) ∧ t6 = .pointer (some ⟨q, 0, none⟩) ∧ Blk wx p #[.int .u64 E, .int .u64 r0, .int .u64 r1, .int .u64 r2, .int .u64 r3, .int .u64 0, .int .u64 0, .int .u64 (St.sum0 E r0 r1 r2 r3), .int .u64 E, .int .u64 r4, .int .u64 r5, .int .u64 r6, .int .u64 r7, .int .u64 1, .int .u64 0, .int .u64 (St.sum1 E r4 r5 r6 r7)] 39 ∧ Blk wx q #[.int .u64 F, .int .u64 s0, .int .u64 s1, .int .u64 s2, .int .u64 s3, .int .u64 0, .int .u64 0, .int .u64 (St.sum0 F s0 s1 s2 s3), .int .u64 F, .int .u64 s4, .int .u64 s5, .int .u64 s6, .int .u64 s7, .int .u64 1, .int .u64 0, .int .u64 (St.sum1 F s4 s5 s6 s7)] 39 ∧ p ≠ q ∧ Below wz.heap.size wz wx)
  case first =>
    refine wp_region_held_drew (S := fun W => Below wz.heap.size wz W) (by kernel_rfl) ?_ (fun hHeld => ?_)
    · (try dsimp only)
      (first | assumption | exact (Below.refl _ _).drew)
    generalize hwD : wz.drew = wD at hHeld ⊢
    clear hwD
    first | (refine wpAnyH_take (i := 0) (v := ?_) rfl (by kernel_rfl) (by kernel_rfl) (by kernel_rfl) (fun _ _ _ h => h) (Or.inl ⟨by rfl, ?_⟩) (by assumption) ?_; rotate_left; (focus (intro wS hSw; (try dsimp only at hSw); first | (refine run_load_rowB XS3 hSw ?_ (fun _ => ?_) (fun _ => ?_); rfl; kernel_rfl; kernel_rfl) | (refine run_load_cellB XS3 hSw ?_ ?_ (fun _ => ?_); rfl; rfl; kernel_rfl) | (refine run_load_rowB XT3 hSw ?_ (fun _ => ?_) (fun _ => ?_); rfl; kernel_rfl; kernel_rfl) | (refine run_load_cellB XT3 hSw ?_ ?_ (fun _ => ?_); rfl; rfl; kernel_rfl) | ((try obtain ⟨hcS, hfS⟩ := bcellR hSw); go_simp; first | done | with_reducible rfl)))) | (refine wpAnyH_take (i := 0) rfl (by kernel_rfl) (by kernel_rfl) (by kernel_rfl) (fun _ _ _ h => h) (Or.inr ⟨by rfl, rfl⟩) (by assumption) ?_) | fail
    try simp only [Act.put, List.getElem_toArray, List.getElem_cons_zero, List.getElem_cons_succ, List.setIfInBounds_toArray, List.set_cons_zero, List.set_cons_succ]
    first | (refine wpAnyH_take (i := 2) (v := ?_) rfl (by kernel_rfl) (by kernel_rfl) (by kernel_rfl) (fun _ _ _ h => h) (Or.inl ⟨by rfl, ?_⟩) (by assumption) ?_; rotate_left; (focus (intro wS hSw; (try dsimp only at hSw); first | (refine run_load_rowB XS3 hSw ?_ (fun _ => ?_) (fun _ => ?_); rfl; kernel_rfl; kernel_rfl) | (refine run_load_cellB XS3 hSw ?_ ?_ (fun _ => ?_); rfl; rfl; kernel_rfl) | (refine run_load_rowB XT3 hSw ?_ (fun _ => ?_) (fun _ => ?_); rfl; kernel_rfl; kernel_rfl) | (refine run_load_cellB XT3 hSw ?_ ?_ (fun _ => ?_); rfl; rfl; kernel_rfl) | ((try obtain ⟨hcS, hfS⟩ := bcellR hSw); go_simp; first | done | with_reducible rfl)))) | (refine wpAnyH_take (i := 2) rfl (by kernel_rfl) (by kernel_rfl) (by kernel_rfl) (fun _ _ _ h => h) (Or.inr ⟨by rfl, rfl⟩) (by assumption) ?_) | fail
    try simp only [Act.put, List.getElem_toArray, List.getElem_cons_zero, List.getElem_cons_succ, List.setIfInBounds_toArray, List.set_cons_zero, List.set_cons_succ]
    refine wpAnyH_ready (rs := [1, 4, 5]) (by kernel_rfl) (by simp) (AllReadyH.cons rfl (fun K hK => ?_) (AllReadyH.cons rfl (fun K hK => ?_) (AllReadyH.cons rfl (fun K hK => ?_) AllReadyH.nil)))
    · have hS := (by assumption : Below _ wz _)
      (try go_simp)
      refine (slEnc_yes E r0 r1 r2 r3 r4 r5 r6 r7 _ HE.out hE0 hr0 hr1 hr2 hr3 hr4 hr5 hr6 hr7).mono ?_
      rintro e w1 ⟨rfl, hb1⟩
      have hS1 := hS.trans (hb1.mono hS.size)
      clear hS
      refine hK.out _ _ ?_ (fun hHeld => ?_)
      · (try dsimp only)
        (first | assumption | exact (Below.refl _ _).drew)
      clear hK K
      try simp only [Act.put, List.getElem_toArray, List.getElem_cons_zero, List.getElem_cons_succ, List.setIfInBounds_toArray, List.set_cons_zero, List.set_cons_succ]
      refine wpAnyH_ready (rs := [3, 4, 5]) (by kernel_rfl) (by simp) (AllReadyH.cons rfl (fun K hK => ?_) (AllReadyH.cons rfl (fun K hK => ?_) (AllReadyH.cons rfl (fun K hK => ?_) AllReadyH.nil)))
      · have hS := (by assumption : Below _ wz _)
        (try go_simp)
        refine (slEnc_yes F s0 s1 s2 s3 s4 s5 s6 s7 _ HF.out hF0 hs0 hs1 hs2 hs3 hs4 hs5 hs6 hs7).mono ?_
        rintro e w3 ⟨rfl, hb3⟩
        have hS3 := hS.trans (hb3.mono hS.size)
        clear hS
        refine hK.out _ _ ?_ (fun hHeld => ?_)
        · (try dsimp only)
          (first | assumption | exact (Below.refl _ _).drew)
        clear hK K
        try simp only [Act.put, List.getElem_toArray, List.getElem_cons_zero, List.getElem_cons_succ, List.setIfInBounds_toArray, List.set_cons_zero, List.set_cons_succ]
        refine wpAnyH_ready (rs := [4, 5]) (by kernel_rfl) (by simp) (AllReadyH.cons rfl (fun K hK => ?_) (AllReadyH.cons rfl (fun K hK => ?_) AllReadyH.nil))
        · have hS := (by assumption : Below _ wz _)
          (try go_simp)
          have BA := Blk.new (w3) #[.int .u64 0, .int .u64 0, .int .u64 0, .int .u64 0, .int .u64 0, .int .u64 0, .int .u64 0, .int .u64 0, .int .u64 0, .int .u64 0, .int .u64 0, .int .u64 0, .int .u64 0, .int .u64 0, .int .u64 0, .int .u64 0] 39
          have hb4 : Below (w3).heap.size (w3) ((w3).alloc (.cells #[.int .u64 0, .int .u64 0, .int .u64 0, .int .u64 0, .int .u64 0, .int .u64 0, .int .u64 0, .int .u64 0, .int .u64 0, .int .u64 0, .int .u64 0, .int .u64 0, .int .u64 0, .int .u64 0, .int .u64 0, .int .u64 0] 39)) := (Below.refl _ _).alloc (Nat.le_refl _) _
          have geBA : wz.heap.size ≤ (w3).heap.size := hS.size
          generalize hw4 : (w3).alloc (.cells #[.int .u64 0, .int .u64 0, .int .u64 0, .int .u64 0, .int .u64 0, .int .u64 0, .int .u64 0, .int .u64 0, .int .u64 0, .int .u64 0, .int .u64 0, .int .u64 0, .int .u64 0, .int .u64 0, .int .u64 0, .int .u64 0] 39) = w4 at BA hb4 ⊢
          clear hw4
          have hS4 := hS.trans (hb4.mono hS.size)
          clear hS
          refine hK.out _ _ ?_ (fun hHeld => ?_)
          · (try dsimp only)
            (first | assumption | exact (Below.refl _ _).drew)
          clear hK K
          try simp only [Act.put, List.getElem_toArray, List.getElem_cons_zero, List.getElem_cons_succ, List.setIfInBounds_toArray, List.set_cons_zero, List.set_cons_succ]
          refine wpAnyH_ready (rs := [5]) (by kernel_rfl) (by simp) (AllReadyH.cons rfl (fun K hK => ?_) AllReadyH.nil)
          have hS := (by assumption : Below _ wz _)
          (try go_simp)
          have BB := Blk.new (w4) #[.int .u64 0, .int .u64 0, .int .u64 0, .int .u64 0, .int .u64 0, .int .u64 0, .int .u64 0, .int .u64 0, .int .u64 0, .int .u64 0, .int .u64 0, .int .u64 0, .int .u64 0, .int .u64 0, .int .u64 0, .int .u64 0] 39
          have hb5 : Below (w4).heap.size (w4) ((w4).alloc (.cells #[.int .u64 0, .int .u64 0, .int .u64 0, .int .u64 0, .int .u64 0, .int .u64 0, .int .u64 0, .int .u64 0, .int .u64 0, .int .u64 0, .int .u64 0, .int .u64 0, .int .u64 0, .int .u64 0, .int .u64 0, .int .u64 0] 39)) := (Below.refl _ _).alloc (Nat.le_refl _) _
          have geBB : wz.heap.size ≤ (w4).heap.size := hS.size
          have neBABB : (w3).heap.size ≠ (w4).heap.size := Nat.ne_of_lt BA.lt
          generalize hw5 : (w4).alloc (.cells #[.int .u64 0, .int .u64 0, .int .u64 0, .int .u64 0, .int .u64 0, .int .u64 0, .int .u64 0, .int .u64 0, .int .u64 0, .int .u64 0, .int .u64 0, .int .u64 0, .int .u64 0, .int .u64 0, .int .u64 0, .int .u64 0] 39) = w5 at BB hb5 ⊢
          clear hw5
          have hS5 := hS.trans (hb5.mono hS.size)
          replace BA := BA.below hb5 BA.lt
          clear hS
          refine hK.out _ _ ?_ (fun hHeld => ?_)
          · (try dsimp only)
            (first | assumption | exact (Below.refl _ _).drew)
          clear hK K
          try simp only [Act.put, List.getElem_toArray, List.getElem_cons_zero, List.getElem_cons_succ, List.setIfInBounds_toArray, List.set_cons_zero, List.set_cons_succ]
          refine wpAnyH_ready (rs := [6]) (by kernel_rfl) (by simp) (AllReadyH.cons rfl (fun K hK => ?_) AllReadyH.nil)
          have hS := (by assumption : Below _ wz _)
          refine wanted_plain rfl ?_
          refine wp_store_row (P := Try.prog) 39 (.tmp 5) (.tmp 24) rfl (w3).heap.size #[.int .u64 E, .int .u64 r0, .int .u64 r1, .int .u64 r2, .int .u64 r3, .int .u64 0, .int .u64 0, .int .u64 (St.sum0 E r0 r1 r2 r3), .int .u64 E, .int .u64 r4, .int .u64 r5, .int .u64 r6, .int .u64 r7, .int .u64 1, .int .u64 0, .int .u64 (St.sum1 E r4 r5 r6 r7)] rfl rfl _ _ BA OI.out rfl OA.out ?_
          replace BA := BA.setRow #[.int .u64 E, .int .u64 r0, .int .u64 r1, .int .u64 r2, .int .u64 r3, .int .u64 0, .int .u64 0, .int .u64 (St.sum0 E r0 r1 r2 r3), .int .u64 E, .int .u64 r4, .int .u64 r5, .int .u64 r6, .int .u64 r7, .int .u64 1, .int .u64 0, .int .u64 (St.sum1 E r4 r5 r6 r7)]
          replace BB := BB.setRow_other #[.int .u64 E, .int .u64 r0, .int .u64 r1, .int .u64 r2, .int .u64 r3, .int .u64 0, .int .u64 0, .int .u64 (St.sum0 E r0 r1 r2 r3), .int .u64 E, .int .u64 r4, .int .u64 r5, .int .u64 r6, .int .u64 r7, .int .u64 1, .int .u64 0, .int .u64 (St.sum1 E r4 r5 r6 r7)] neBABB.symm
          have hS6 := below_setRow hS geBA #[.int .u64 E, .int .u64 r0, .int .u64 r1, .int .u64 r2, .int .u64 r3, .int .u64 0, .int .u64 0, .int .u64 (St.sum0 E r0 r1 r2 r3), .int .u64 E, .int .u64 r4, .int .u64 r5, .int .u64 r6, .int .u64 r7, .int .u64 1, .int .u64 0, .int .u64 (St.sum1 E r4 r5 r6 r7)]
          generalize hw6 : World.setRow (w5) (w3).heap.size #[.int .u64 E, .int .u64 r0, .int .u64 r1, .int .u64 r2, .int .u64 r3, .int .u64 0, .int .u64 0, .int .u64 (St.sum0 E r0 r1 r2 r3), .int .u64 E, .int .u64 r4, .int .u64 r5, .int .u64 r6, .int .u64 r7, .int .u64 1, .int .u64 0, .int .u64 (St.sum1 E r4 r5 r6 r7)] = w6 at hS6 BA BB ⊢
          clear hw6
          clear hS
          refine hK.out _ _ ?_ (fun hHeld => ?_)
          · (try dsimp only)
            (first | assumption | exact (Below.refl _ _).drew)
          clear hK K
          try simp only [Act.put, List.getElem_toArray, List.getElem_cons_zero, List.getElem_cons_succ, List.setIfInBounds_toArray, List.set_cons_zero, List.set_cons_succ]
          refine wpAnyH_ready (rs := [7]) (by kernel_rfl) (by simp) (AllReadyH.cons rfl (fun K hK => ?_) AllReadyH.nil)
          have hS := (by assumption : Below _ wz _)
          refine wanted_plain rfl ?_
          refine wp_store_row (P := Try.prog) 39 (.tmp 6) (.tmp 26) rfl (w4).heap.size #[.int .u64 F, .int .u64 s0, .int .u64 s1, .int .u64 s2, .int .u64 s3, .int .u64 0, .int .u64 0, .int .u64 (St.sum0 F s0 s1 s2 s3), .int .u64 F, .int .u64 s4, .int .u64 s5, .int .u64 s6, .int .u64 s7, .int .u64 1, .int .u64 0, .int .u64 (St.sum1 F s4 s5 s6 s7)] rfl rfl _ _ BB OI.out rfl OB.out ?_
          replace BB := BB.setRow #[.int .u64 F, .int .u64 s0, .int .u64 s1, .int .u64 s2, .int .u64 s3, .int .u64 0, .int .u64 0, .int .u64 (St.sum0 F s0 s1 s2 s3), .int .u64 F, .int .u64 s4, .int .u64 s5, .int .u64 s6, .int .u64 s7, .int .u64 1, .int .u64 0, .int .u64 (St.sum1 F s4 s5 s6 s7)]
          replace BA := BA.setRow_other #[.int .u64 F, .int .u64 s0, .int .u64 s1, .int .u64 s2, .int .u64 s3, .int .u64 0, .int .u64 0, .int .u64 (St.sum0 F s0 s1 s2 s3), .int .u64 F, .int .u64 s4, .int .u64 s5, .int .u64 s6, .int .u64 s7, .int .u64 1, .int .u64 0, .int .u64 (St.sum1 F s4 s5 s6 s7)] neBABB
          have hS7 := below_setRow hS geBB #[.int .u64 F, .int .u64 s0, .int .u64 s1, .int .u64 s2, .int .u64 s3, .int .u64 0, .int .u64 0, .int .u64 (St.sum0 F s0 s1 s2 s3), .int .u64 F, .int .u64 s4, .int .u64 s5, .int .u64 s6, .int .u64 s7, .int .u64 1, .int .u64 0, .int .u64 (St.sum1 F s4 s5 s6 s7)]
          generalize hw7 : World.setRow (w6) (w4).heap.size #[.int .u64 F, .int .u64 s0, .int .u64 s1, .int .u64 s2, .int .u64 s3, .int .u64 0, .int .u64 0, .int .u64 (St.sum0 F s0 s1 s2 s3), .int .u64 F, .int .u64 s4, .int .u64 s5, .int .u64 s6, .int .u64 s7, .int .u64 1, .int .u64 0, .int .u64 (St.sum1 F s4 s5 s6 s7)] = w7 at hS7 BA BB ⊢
          clear hw7
          clear hS
          refine hK.out _ _ ?_ (fun hHeld => ?_)
          · (try dsimp only)
            (first | assumption | exact (Below.refl _ _).drew)
          clear hK K
          try simp only [Act.put, List.getElem_toArray, List.getElem_cons_zero, List.getElem_cons_succ, List.setIfInBounds_toArray, List.set_cons_zero, List.set_cons_succ]
          refine wpAnyH_done (by kernel_rfl) ?_ _
          have hSF := (by assumption : Below _ wz _)
          go_wp2_with fail
          go_meet
          case rel => first | exact ⟨_, _, rfl, rfl, BA, BB, neBABB, hSF⟩ | exact ⟨_, _, rfl, rfl, BA, BB, neBBBA.symm, hSF⟩
        · have hS := (by assumption : Below _ wz _)
          (try go_simp)
          have BB := Blk.new (w3) #[.int .u64 0, .int .u64 0, .int .u64 0, .int .u64 0, .int .u64 0, .int .u64 0, .int .u64 0, .int .u64 0, .int .u64 0, .int .u64 0, .int .u64 0, .int .u64 0, .int .u64 0, .int .u64 0, .int .u64 0, .int .u64 0] 39
          have hb5 : Below (w3).heap.size (w3) ((w3).alloc (.cells #[.int .u64 0, .int .u64 0, .int .u64 0, .int .u64 0, .int .u64 0, .int .u64 0, .int .u64 0, .int .u64 0, .int .u64 0, .int .u64 0, .int .u64 0, .int .u64 0, .int .u64 0, .int .u64 0, .int .u64 0, .int .u64 0] 39)) := (Below.refl _ _).alloc (Nat.le_refl _) _
          have geBB : wz.heap.size ≤ (w3).heap.size := hS.size
          generalize hw5 : (w3).alloc (.cells #[.int .u64 0, .int .u64 0, .int .u64 0, .int .u64 0, .int .u64 0, .int .u64 0, .int .u64 0, .int .u64 0, .int .u64 0, .int .u64 0, .int .u64 0, .int .u64 0, .int .u64 0, .int .u64 0, .int .u64 0, .int .u64 0] 39) = w5 at BB hb5 ⊢
          clear hw5
          have hS5 := hS.trans (hb5.mono hS.size)
          clear hS
          refine hK.out _ _ ?_ (fun hHeld => ?_)
          · (try dsimp only)
            (first | assumption | exact (Below.refl _ _).drew)
          clear hK K
          try simp only [Act.put, List.getElem_toArray, List.getElem_cons_zero, List.getElem_cons_succ, List.setIfInBounds_toArray, List.set_cons_zero, List.set_cons_succ]
          refine wpAnyH_ready (rs := [4]) (by kernel_rfl) (by simp) (AllReadyH.cons rfl (fun K hK => ?_) AllReadyH.nil)
          have hS := (by assumption : Below _ wz _)
          (try go_simp)
          have BA := Blk.new (w5) #[.int .u64 0, .int .u64 0, .int .u64 0, .int .u64 0, .int .u64 0, .int .u64 0, .int .u64 0, .int .u64 0, .int .u64 0, .int .u64 0, .int .u64 0, .int .u64 0, .int .u64 0, .int .u64 0, .int .u64 0, .int .u64 0] 39
          have hb4 : Below (w5).heap.size (w5) ((w5).alloc (.cells #[.int .u64 0, .int .u64 0, .int .u64 0, .int .u64 0, .int .u64 0, .int .u64 0, .int .u64 0, .int .u64 0, .int .u64 0, .int .u64 0, .int .u64 0, .int .u64 0, .int .u64 0, .int .u64 0, .int .u64 0, .int .u64 0] 39)) := (Below.refl _ _).alloc (Nat.le_refl _) _
          have geBA : wz.heap.size ≤ (w5).heap.size := hS.size
          have neBBBA : (w3).heap.size ≠ (w5).heap.size := Nat.ne_of_lt BB.lt
          generalize hw4 : (w5).alloc (.cells #[.int .u64 0, .int .u64 0, .int .u64 0, .int .u64 0, .int .u64 0, .int .u64 0, .int .u64 0, .int .u64 0, .int .u64 0, .int .u64 0, .int .u64 0, .int .u64 0, .int .u64 0, .int .u64 0, .int .u64 0, .int .u64 0] 39) = w4 at BA hb4 ⊢
          clear hw4
          have hS4 := hS.trans (hb4.mono hS.size)
          replace BB := BB.below hb4 BB.lt
          clear hS
          refine hK.out _ _ ?_ (fun hHeld => ?_)
          · (try dsimp only)
            (first | assumption | exact (Below.refl _ _).drew)
          clear hK K
          try simp only [Act.put, List.getElem_toArray, List.getElem_cons_zero, List.getElem_cons_succ, List.setIfInBounds_toArray, List.set_cons_zero, List.set_cons_succ]
          refine wpAnyH_ready (rs := [6]) (by kernel_rfl) (by simp) (AllReadyH.cons rfl (fun K hK => ?_) AllReadyH.nil)
          have hS := (by assumption : Below _ wz _)
          refine wanted_plain rfl ?_
          refine wp_store_row (P := Try.prog) 39 (.tmp 5) (.tmp 24) rfl (w5).heap.size #[.int .u64 E, .int .u64 r0, .int .u64 r1, .int .u64 r2, .int .u64 r3, .int .u64 0, .int .u64 0, .int .u64 (St.sum0 E r0 r1 r2 r3), .int .u64 E, .int .u64 r4, .int .u64 r5, .int .u64 r6, .int .u64 r7, .int .u64 1, .int .u64 0, .int .u64 (St.sum1 E r4 r5 r6 r7)] rfl rfl _ _ BA OI.out rfl OA.out ?_
          replace BA := BA.setRow #[.int .u64 E, .int .u64 r0, .int .u64 r1, .int .u64 r2, .int .u64 r3, .int .u64 0, .int .u64 0, .int .u64 (St.sum0 E r0 r1 r2 r3), .int .u64 E, .int .u64 r4, .int .u64 r5, .int .u64 r6, .int .u64 r7, .int .u64 1, .int .u64 0, .int .u64 (St.sum1 E r4 r5 r6 r7)]
          replace BB := BB.setRow_other #[.int .u64 E, .int .u64 r0, .int .u64 r1, .int .u64 r2, .int .u64 r3, .int .u64 0, .int .u64 0, .int .u64 (St.sum0 E r0 r1 r2 r3), .int .u64 E, .int .u64 r4, .int .u64 r5, .int .u64 r6, .int .u64 r7, .int .u64 1, .int .u64 0, .int .u64 (St.sum1 E r4 r5 r6 r7)] neBBBA
          have hS6 := below_setRow hS geBA #[.int .u64 E, .int .u64 r0, .int .u64 r1, .int .u64 r2, .int .u64 r3, .int .u64 0, .int .u64 0, .int .u64 (St.sum0 E r0 r1 r2 r3), .int .u64 E, .int .u64 r4, .int .u64 r5, .int .u64 r6, .int .u64 r7, .int .u64 1, .int .u64 0, .int .u64 (St.sum1 E r4 r5 r6 r7)]
          generalize hw6 : World.setRow (w4) (w5).heap.size #[.int .u64 E, .int .u64 r0, .int .u64 r1, .int .u64 r2, .int .u64 r3, .int .u64 0, .int .u64 0, .int .u64 (St.sum0 E r0 r1 r2 r3), .int .u64 E, .int .u64 r4, .int .u64 r5, .int .u64 r6, .int .u64 r7, .int .u64 1, .int .u64 0, .int .u64 (St.sum1 E r4 r5 r6 r7)] = w6 at hS6 BB BA ⊢
          clear hw6
          clear hS
          refine hK.out _ _ ?_ (fun hHeld => ?_)
          · (try dsimp only)
            (first | assumption | exact (Below.refl _ _).drew)
          clear hK K
          try simp only [Act.put, List.getElem_toArray, List.getElem_cons_zero, List.getElem_cons_succ, List.setIfInBounds_toArray, List.set_cons_zero, List.set_cons_succ]
          refine wpAnyH_ready (rs := [7]) (by kernel_rfl) (by simp) (AllReadyH.cons rfl (fun K hK => ?_) AllReadyH.nil)
          have hS := (by assumption : Below _ wz _)
          refine wanted_plain rfl ?_
          refine wp_store_row (P := Try.prog) 39 (.tmp 6) (.tmp 26) rfl (w3).heap.size #[.int .u64 F, .int .u64 s0, .int .u64 s1, .int .u64 s2, .int .u64 s3, .int .u64 0, .int .u64 0, .int .u64 (St.sum0 F s0 s1 s2 s3), .int .u64 F, .int .u64 s4, .int .u64 s5, .int .u64 s6, .int .u64 s7, .int .u64 1, .int .u64 0, .int .u64 (St.sum1 F s4 s5 s6 s7)] rfl rfl _ _ BB OI.out rfl OB.out ?_
          replace BB := BB.setRow #[.int .u64 F, .int .u64 s0, .int .u64 s1, .int .u64 s2, .int .u64 s3, .int .u64 0, .int .u64 0, .int .u64 (St.sum0 F s0 s1 s2 s3), .int .u64 F, .int .u64 s4, .int .u64 s5, .int .u64 s6, .int .u64 s7, .int .u64 1, .int .u64 0, .int .u64 (St.sum1 F s4 s5 s6 s7)]
          replace BA := BA.setRow_other #[.int .u64 F, .int .u64 s0, .int .u64 s1, .int .u64 s2, .int .u64 s3, .int .u64 0, .int .u64 0, .int .u64 (St.sum0 F s0 s1 s2 s3), .int .u64 F, .int .u64 s4, .int .u64 s5, .int .u64 s6, .int .u64 s7, .int .u64 1, .int .u64 0, .int .u64 (St.sum1 F s4 s5 s6 s7)] neBBBA.symm
          have hS7 := below_setRow hS geBB #[.int .u64 F, .int .u64 s0, .int .u64 s1, .int .u64 s2, .int .u64 s3, .int .u64 0, .int .u64 0, .int .u64 (St.sum0 F s0 s1 s2 s3), .int .u64 F, .int .u64 s4, .int .u64 s5, .int .u64 s6, .int .u64 s7, .int .u64 1, .int .u64 0, .int .u64 (St.sum1 F s4 s5 s6 s7)]
          generalize hw7 : World.setRow (w6) (w3).heap.size #[.int .u64 F, .int .u64 s0, .int .u64 s1, .int .u64 s2, .int .u64 s3, .int .u64 0, .int .u64 0, .int .u64 (St.sum0 F s0 s1 s2 s3), .int .u64 F, .int .u64 s4, .int .u64 s5, .int .u64 s6, .int .u64 s7, .int .u64 1, .int .u64 0, .int .u64 (St.sum1 F s4 s5 s6 s7)] = w7 at hS7 BB BA ⊢
          clear hw7
          clear hS
          refine hK.out _ _ ?_ (fun hHeld => ?_)
          · (try dsimp only)
            (first | assumption | exact (Below.refl _ _).drew)
          clear hK K
          try simp only [Act.put, List.getElem_toArray, List.getElem_cons_zero, List.getElem_cons_succ, List.setIfInBounds_toArray, List.set_cons_zero, List.set_cons_succ]
          refine wpAnyH_done (by kernel_rfl) ?_ _
          have hSF := (by assumption : Below _ wz _)
          go_wp2_with fail
          go_meet
          case rel => first | exact ⟨_, _, rfl, rfl, BA, BB, neBABB, hSF⟩ | exact ⟨_, _, rfl, rfl, BA, BB, neBBBA.symm, hSF⟩
      · have hS := (by assumption : Below _ wz _)
        (try go_simp)
        have BA := Blk.new (w1) #[.int .u64 0, .int .u64 0, .int .u64 0, .int .u64 0, .int .u64 0, .int .u64 0, .int .u64 0, .int .u64 0, .int .u64 0, .int .u64 0, .int .u64 0, .int .u64 0, .int .u64 0, .int .u64 0, .int .u64 0, .int .u64 0] 39
        have hb4 : Below (w1).heap.size (w1) ((w1).alloc (.cells #[.int .u64 0, .int .u64 0, .int .u64 0, .int .u64 0, .int .u64 0, .int .u64 0, .int .u64 0, .int .u64 0, .int .u64 0, .int .u64 0, .int .u64 0, .int .u64 0, .int .u64 0, .int .u64 0, .int .u64 0, .int .u64 0] 39)) := (Below.refl _ _).alloc (Nat.le_refl _) _
        have geBA : wz.heap.size ≤ (w1).heap.size := hS.size
        generalize hw4 : (w1).alloc (.cells #[.int .u64 0, .int .u64 0, .int .u64 0, .int .u64 0, .int .u64 0, .int .u64 0, .int .u64 0, .int .u64 0, .int .u64 0, .int .u64 0, .int .u64 0, .int .u64 0, .int .u64 0, .int .u64 0, .int .u64 0, .int .u64 0] 39) = w4 at BA hb4 ⊢
        clear hw4
        have hS4 := hS.trans (hb4.mono hS.size)
        clear hS
        refine hK.out _ _ ?_ (fun hHeld => ?_)
        · (try dsimp only)
          (first | assumption | exact (Below.refl _ _).drew)
        clear hK K
        try simp only [Act.put, List.getElem_toArray, List.getElem_cons_zero, List.getElem_cons_succ, List.setIfInBounds_toArray, List.set_cons_zero, List.set_cons_succ]
        refine wpAnyH_ready (rs := [3, 5]) (by kernel_rfl) (by simp) (AllReadyH.cons rfl (fun K hK => ?_) (AllReadyH.cons rfl (fun K hK => ?_) AllReadyH.nil))
        · have hS := (by assumption : Below _ wz _)
          (try go_simp)
          refine (slEnc_yes F s0 s1 s2 s3 s4 s5 s6 s7 _ HF.out hF0 hs0 hs1 hs2 hs3 hs4 hs5 hs6 hs7).mono ?_
          rintro e w3 ⟨rfl, hb3⟩
          have hS3 := hS.trans (hb3.mono hS.size)
          replace BA := BA.below hb3 BA.lt
          clear hS
          refine hK.out _ _ ?_ (fun hHeld => ?_)
          · (try dsimp only)
            (first | assumption | exact (Below.refl _ _).drew)
          clear hK K
          try simp only [Act.put, List.getElem_toArray, List.getElem_cons_zero, List.getElem_cons_succ, List.setIfInBounds_toArray, List.set_cons_zero, List.set_cons_succ]
          refine wpAnyH_ready (rs := [5]) (by kernel_rfl) (by simp) (AllReadyH.cons rfl (fun K hK => ?_) AllReadyH.nil)
          have hS := (by assumption : Below _ wz _)
          (try go_simp)
          have BB := Blk.new (w3) #[.int .u64 0, .int .u64 0, .int .u64 0, .int .u64 0, .int .u64 0, .int .u64 0, .int .u64 0, .int .u64 0, .int .u64 0, .int .u64 0, .int .u64 0, .int .u64 0, .int .u64 0, .int .u64 0, .int .u64 0, .int .u64 0] 39
          have hb5 : Below (w3).heap.size (w3) ((w3).alloc (.cells #[.int .u64 0, .int .u64 0, .int .u64 0, .int .u64 0, .int .u64 0, .int .u64 0, .int .u64 0, .int .u64 0, .int .u64 0, .int .u64 0, .int .u64 0, .int .u64 0, .int .u64 0, .int .u64 0, .int .u64 0, .int .u64 0] 39)) := (Below.refl _ _).alloc (Nat.le_refl _) _
          have geBB : wz.heap.size ≤ (w3).heap.size := hS.size
          have neBABB : (w1).heap.size ≠ (w3).heap.size := Nat.ne_of_lt BA.lt
          generalize hw5 : (w3).alloc (.cells #[.int .u64 0, .int .u64 0, .int .u64 0, .int .u64 0, .int .u64 0, .int .u64 0, .int .u64 0, .int .u64 0, .int .u64 0, .int .u64 0, .int .u64 0, .int .u64 0, .int .u64 0, .int .u64 0, .int .u64 0, .int .u64 0] 39) = w5 at BB hb5 ⊢
          clear hw5
          have hS5 := hS.trans (hb5.mono hS.size)
          replace BA := BA.below hb5 BA.lt
          clear hS
          refine hK.out _ _ ?_ (fun hHeld => ?_)
          · (try dsimp only)
            (first | assumption | exact (Below.refl _ _).drew)
          clear hK K
          try simp only [Act.put, List.getElem_toArray, List.getElem_cons_zero, List.getElem_cons_succ, List.setIfInBounds_toArray, List.set_cons_zero, List.set_cons_succ]
          refine wpAnyH_ready (rs := [6]) (by kernel_rfl) (by simp) (AllReadyH.cons rfl (fun K hK => ?_) AllReadyH.nil)
          have hS := (by assumption : Below _ wz _)
          refine wanted_plain rfl ?_
          refine wp_store_row (P := Try.prog) 39 (.tmp 5) (.tmp 24) rfl (w1).heap.size #[.int .u64 E, .int .u64 r0, .int .u64 r1, .int .u64 r2, .int .u64 r3, .int .u64 0, .int .u64 0, .int .u64 (St.sum0 E r0 r1 r2 r3), .int .u64 E, .int .u64 r4, .int .u64 r5, .int .u64 r6, .int .u64 r7, .int .u64 1, .int .u64 0, .int .u64 (St.sum1 E r4 r5 r6 r7)] rfl rfl _ _ BA OI.out rfl OA.out ?_
          replace BA := BA.setRow #[.int .u64 E, .int .u64 r0, .int .u64 r1, .int .u64 r2, .int .u64 r3, .int .u64 0, .int .u64 0, .int .u64 (St.sum0 E r0 r1 r2 r3), .int .u64 E, .int .u64 r4, .int .u64 r5, .int .u64 r6, .int .u64 r7, .int .u64 1, .int .u64 0, .int .u64 (St.sum1 E r4 r5 r6 r7)]
          replace BB := BB.setRow_other #[.int .u64 E, .int .u64 r0, .int .u64 r1, .int .u64 r2, .int .u64 r3, .int .u64 0, .int .u64 0, .int .u64 (St.sum0 E r0 r1 r2 r3), .int .u64 E, .int .u64 r4, .int .u64 r5, .int .u64 r6, .int .u64 r7, .int .u64 1, .int .u64 0, .int .u64 (St.sum1 E r4 r5 r6 r7)] neBABB.symm
          have hS6 := below_setRow hS geBA #[.int .u64 E, .int .u64 r0, .int .u64 r1, .int .u64 r2, .int .u64 r3, .int .u64 0, .int .u64 0, .int .u64 (St.sum0 E r0 r1 r2 r3), .int .u64 E, .int .u64 r4, .int .u64 r5, .int .u64 r6, .int .u64 r7, .int .u64 1, .int .u64 0, .int .u64 (St.sum1 E r4 r5 r6 r7)]
          generalize hw6 : World.setRow (w5) (w1).heap.size #[.int .u64 E, .int .u64 r0, .int .u64 r1, .int .u64 r2, .int .u64 r3, .int .u64 0, .int .u64 0, .int .u64 (St.sum0 E r0 r1 r2 r3), .int .u64 E, .int .u64 r4, .int .u64 r5, .int .u64 r6, .int .u64 r7, .int .u64 1, .int .u64 0, .int .u64 (St.sum1 E r4 r5 r6 r7)] = w6 at hS6 BA BB ⊢
          clear hw6
          clear hS
          refine hK.out _ _ ?_ (fun hHeld => ?_)
          · (try dsimp only)
            (first | assumption | exact (Below.refl _ _).drew)
          clear hK K
          try simp only [Act.put, List.getElem_toArray, List.getElem_cons_zero, List.getElem_cons_succ, List.setIfInBounds_toArray, List.set_cons_zero, List.set_cons_succ]
          refine wpAnyH_ready (rs := [7]) (by kernel_rfl) (by simp) (AllReadyH.cons rfl (fun K hK => ?_) AllReadyH.nil)
          have hS := (by assumption : Below _ wz _)
          refine wanted_plain rfl ?_
          refine wp_store_row (P := Try.prog) 39 (.tmp 6) (.tmp 26) rfl (w3).heap.size #[.int .u64 F, .int .u64 s0, .int .u64 s1, .int .u64 s2, .int .u64 s3, .int .u64 0, .int .u64 0, .int .u64 (St.sum0 F s0 s1 s2 s3), .int .u64 F, .int .u64 s4, .int .u64 s5, .int .u64 s6, .int .u64 s7, .int .u64 1, .int .u64 0, .int .u64 (St.sum1 F s4 s5 s6 s7)] rfl rfl _ _ BB OI.out rfl OB.out ?_
          replace BB := BB.setRow #[.int .u64 F, .int .u64 s0, .int .u64 s1, .int .u64 s2, .int .u64 s3, .int .u64 0, .int .u64 0, .int .u64 (St.sum0 F s0 s1 s2 s3), .int .u64 F, .int .u64 s4, .int .u64 s5, .int .u64 s6, .int .u64 s7, .int .u64 1, .int .u64 0, .int .u64 (St.sum1 F s4 s5 s6 s7)]
          replace BA := BA.setRow_other #[.int .u64 F, .int .u64 s0, .int .u64 s1, .int .u64 s2, .int .u64 s3, .int .u64 0, .int .u64 0, .int .u64 (St.sum0 F s0 s1 s2 s3), .int .u64 F, .int .u64 s4, .int .u64 s5, .int .u64 s6, .int .u64 s7, .int .u64 1, .int .u64 0, .int .u64 (St.sum1 F s4 s5 s6 s7)] neBABB
          have hS7 := below_setRow hS geBB #[.int .u64 F, .int .u64 s0, .int .u64 s1, .int .u64 s2, .int .u64 s3, .int .u64 0, .int .u64 0, .int .u64 (St.sum0 F s0 s1 s2 s3), .int .u64 F, .int .u64 s4, .int .u64 s5, .int .u64 s6, .int .u64 s7, .int .u64 1, .int .u64 0, .int .u64 (St.sum1 F s4 s5 s6 s7)]
          generalize hw7 : World.setRow (w6) (w3).heap.size #[.int .u64 F, .int .u64 s0, .int .u64 s1, .int .u64 s2, .int .u64 s3, .int .u64 0, .int .u64 0, .int .u64 (St.sum0 F s0 s1 s2 s3), .int .u64 F, .int .u64 s4, .int .u64 s5, .int .u64 s6, .int .u64 s7, .int .u64 1, .int .u64 0, .int .u64 (St.sum1 F s4 s5 s6 s7)] = w7 at hS7 BA BB ⊢
          clear hw7
          clear hS
          refine hK.out _ _ ?_ (fun hHeld => ?_)
          · (try dsimp only)
            (first | assumption | exact (Below.refl _ _).drew)
          clear hK K
          try simp only [Act.put, List.getElem_toArray, List.getElem_cons_zero, List.getElem_cons_succ, List.setIfInBounds_toArray, List.set_cons_zero, List.set_cons_succ]
          refine wpAnyH_done (by kernel_rfl) ?_ _
          have hSF := (by assumption : Below _ wz _)
          go_wp2_with fail
          go_meet
          case rel => first | exact ⟨_, _, rfl, rfl, BA, BB, neBABB, hSF⟩ | exact ⟨_, _, rfl, rfl, BA, BB, neBBBA.symm, hSF⟩
        · have hS := (by assumption : Below _ wz _)
          (try go_simp)
          have BB := Blk.new (w4) #[.int .u64 0, .int .u64 0, .int .u64 0, .int .u64 0, .int .u64 0, .int .u64 0, .int .u64 0, .int .u64 0, .int .u64 0, .int .u64 0, .int .u64 0, .int .u64 0, .int .u64 0, .int .u64 0, .int .u64 0, .int .u64 0] 39
          have hb5 : Below (w4).heap.size (w4) ((w4).alloc (.cells #[.int .u64 0, .int .u64 0, .int .u64 0, .int .u64 0, .int .u64 0, .int .u64 0, .int .u64 0, .int .u64 0, .int .u64 0, .int .u64 0, .int .u64 0, .int .u64 0, .int .u64 0, .int .u64 0, .int .u64 0, .int .u64 0] 39)) := (Below.refl _ _).alloc (Nat.le_refl _) _
          have geBB : wz.heap.size ≤ (w4).heap.size := hS.size
          have neBABB : (w1).heap.size ≠ (w4).heap.size := Nat.ne_of_lt BA.lt
          generalize hw5 : (w4).alloc (.cells #[.int .u64 0, .int .u64 0, .int .u64 0, .int .u64 0, .int .u64 0, .int .u64 0, .int .u64 0, .int .u64 0, .int .u64 0, .int .u64 0, .int .u64 0, .int .u64 0, .int .u64 0, .int .u64 0, .int .u64 0, .int .u64 0] 39) = w5 at BB hb5 ⊢
          clear hw5
          have hS5 := hS.trans (hb5.mono hS.size)
          replace BA := BA.below hb5 BA.lt
          clear hS
          refine hK.out _ _ ?_ (fun hHeld => ?_)
          · (try dsimp only)
            (first | assumption | exact (Below.refl _ _).drew)
          clear hK K
          try simp only [Act.put, List.getElem_toArray, List.getElem_cons_zero, List.getElem_cons_succ, List.setIfInBounds_toArray, List.set_cons_zero, List.set_cons_succ]
          refine wpAnyH_ready (rs := [3]) (by kernel_rfl) (by simp) (AllReadyH.cons rfl (fun K hK => ?_) AllReadyH.nil)
          have hS := (by assumption : Below _ wz _)
          (try go_simp)
          refine (slEnc_yes F s0 s1 s2 s3 s4 s5 s6 s7 _ HF.out hF0 hs0 hs1 hs2 hs3 hs4 hs5 hs6 hs7).mono ?_
          rintro e w3 ⟨rfl, hb3⟩
          have hS3 := hS.trans (hb3.mono hS.size)
          replace BA := BA.below hb3 BA.lt
          replace BB := BB.below hb3 BB.lt
          clear hS
          refine hK.out _ _ ?_ (fun hHeld => ?_)
          · (try dsimp only)
            (first | assumption | exact (Below.refl _ _).drew)
          clear hK K
          try simp only [Act.put, List.getElem_toArray, List.getElem_cons_zero, List.getElem_cons_succ, List.setIfInBounds_toArray, List.set_cons_zero, List.set_cons_succ]
          refine wpAnyH_ready (rs := [6]) (by kernel_rfl) (by simp) (AllReadyH.cons rfl (fun K hK => ?_) AllReadyH.nil)
          have hS := (by assumption : Below _ wz _)
          refine wanted_plain rfl ?_
          refine wp_store_row (P := Try.prog) 39 (.tmp 5) (.tmp 24) rfl (w1).heap.size #[.int .u64 E, .int .u64 r0, .int .u64 r1, .int .u64 r2, .int .u64 r3, .int .u64 0, .int .u64 0, .int .u64 (St.sum0 E r0 r1 r2 r3), .int .u64 E, .int .u64 r4, .int .u64 r5, .int .u64 r6, .int .u64 r7, .int .u64 1, .int .u64 0, .int .u64 (St.sum1 E r4 r5 r6 r7)] rfl rfl _ _ BA OI.out rfl OA.out ?_
          replace BA := BA.setRow #[.int .u64 E, .int .u64 r0, .int .u64 r1, .int .u64 r2, .int .u64 r3, .int .u64 0, .int .u64 0, .int .u64 (St.sum0 E r0 r1 r2 r3), .int .u64 E, .int .u64 r4, .int .u64 r5, .int .u64 r6, .int .u64 r7, .int .u64 1, .int .u64 0, .int .u64 (St.sum1 E r4 r5 r6 r7)]
          replace BB := BB.setRow_other #[.int .u64 E, .int .u64 r0, .int .u64 r1, .int .u64 r2, .int .u64 r3, .int .u64 0, .int .u64 0, .int .u64 (St.sum0 E r0 r1 r2 r3), .int .u64 E, .int .u64 r4, .int .u64 r5, .int .u64 r6, .int .u64 r7, .int .u64 1, .int .u64 0, .int .u64 (St.sum1 E r4 r5 r6 r7)] neBABB.symm
          have hS6 := below_setRow hS geBA #[.int .u64 E, .int .u64 r0, .int .u64 r1, .int .u64 r2, .int .u64 r3, .int .u64 0, .int .u64 0, .int .u64 (St.sum0 E r0 r1 r2 r3), .int .u64 E, .int .u64 r4, .int .u64 r5, .int .u64 r6, .int .u64 r7, .int .u64 1, .int .u64 0, .int .u64 (St.sum1 E r4 r5 r6 r7)]
          generalize hw6 : World.setRow (w3) (w1).heap.size #[.int .u64 E, .int .u64 r0, .int .u64 r1, .int .u64 r2, .int .u64 r3, .int .u64 0, .int .u64 0, .int .u64 (St.sum0 E r0 r1 r2 r3), .int .u64 E, .int .u64 r4, .int .u64 r5, .int .u64 r6, .int .u64 r7, .int .u64 1, .int .u64 0, .int .u64 (St.sum1 E r4 r5 r6 r7)] = w6 at hS6 BA BB ⊢
          clear hw6
          clear hS
          refine hK.out _ _ ?_ (fun hHeld => ?_)
          · (try dsimp only)
            (first | assumption | exact (Below.refl _ _).drew)
          clear hK K
          try simp only [Act.put, List.getElem_toArray, List.getElem_cons_zero, List.getElem_cons_succ, List.setIfInBounds_toArray, List.set_cons_zero, List.set_cons_succ]
          refine wpAnyH_ready (rs := [7]) (by kernel_rfl) (by simp) (AllReadyH.cons rfl (fun K hK => ?_) AllReadyH.nil)
          have hS := (by assumption : Below _ wz _)
          refine wanted_plain rfl ?_
          refine wp_store_row (P := Try.prog) 39 (.tmp 6) (.tmp 26) rfl (w4).heap.size #[.int .u64 F, .int .u64 s0, .int .u64 s1, .int .u64 s2, .int .u64 s3, .int .u64 0, .int .u64 0, .int .u64 (St.sum0 F s0 s1 s2 s3), .int .u64 F, .int .u64 s4, .int .u64 s5, .int .u64 s6, .int .u64 s7, .int .u64 1, .int .u64 0, .int .u64 (St.sum1 F s4 s5 s6 s7)] rfl rfl _ _ BB OI.out rfl OB.out ?_
          replace BB := BB.setRow #[.int .u64 F, .int .u64 s0, .int .u64 s1, .int .u64 s2, .int .u64 s3, .int .u64 0, .int .u64 0, .int .u64 (St.sum0 F s0 s1 s2 s3), .int .u64 F, .int .u64 s4, .int .u64 s5, .int .u64 s6, .int .u64 s7, .int .u64 1, .int .u64 0, .int .u64 (St.sum1 F s4 s5 s6 s7)]
          replace BA := BA.setRow_other #[.int .u64 F, .int .u64 s0, .int .u64 s1, .int .u64 s2, .int .u64 s3, .int .u64 0, .int .u64 0, .int .u64 (St.sum0 F s0 s1 s2 s3), .int .u64 F, .int .u64 s4, .int .u64 s5, .int .u64 s6, .int .u64 s7, .int .u64 1, .int .u64 0, .int .u64 (St.sum1 F s4 s5 s6 s7)] neBABB
          have hS7 := below_setRow hS geBB #[.int .u64 F, .int .u64 s0, .int .u64 s1, .int .u64 s2, .int .u64 s3, .int .u64 0, .int .u64 0, .int .u64 (St.sum0 F s0 s1 s2 s3), .int .u64 F, .int .u64 s4, .int .u64 s5, .int .u64 s6, .int .u64 s7, .int .u64 1, .int .u64 0, .int .u64 (St.sum1 F s4 s5 s6 s7)]
          generalize hw7 : World.setRow (w6) (w4).heap.size #[.int .u64 F, .int .u64 s0, .int .u64 s1, .int .u64 s2, .int .u64 s3, .int .u64 0, .int .u64 0, .int .u64 (St.sum0 F s0 s1 s2 s3), .int .u64 F, .int .u64 s4, .int .u64 s5, .int .u64 s6, .int .u64 s7, .int .u64 1, .int .u64 0, .int .u64 (St.sum1 F s4 s5 s6 s7)] = w7 at hS7 BA BB ⊢
          clear hw7
          clear hS
          refine hK.out _ _ ?_ (fun hHeld => ?_)
          · (try dsimp only)
            (first | assumption | exact (Below.refl _ _).drew)
          clear hK K
          try simp only [Act.put, List.getElem_toArray, List.getElem_cons_zero, List.getElem_cons_succ, List.setIfInBounds_toArray, List.set_cons_zero, List.set_cons_succ]
          refine wpAnyH_done (by kernel_rfl) ?_ _
          have hSF := (by assumption : Below _ wz _)
          go_wp2_with fail
          go_meet
          case rel => first | exact ⟨_, _, rfl, rfl, BA, BB, neBABB, hSF⟩ | exact ⟨_, _, rfl, rfl, BA, BB, neBBBA.symm, hSF⟩
      · have hS := (by assumption : Below _ wz _)
        (try go_simp)
        have BB := Blk.new (w1) #[.int .u64 0, .int .u64 0, .int .u64 0, .int .u64 0, .int .u64 0, .int .u64 0, .int .u64 0, .int .u64 0, .int .u64 0, .int .u64 0, .int .u64 0, .int .u64 0, .int .u64 0, .int .u64 0, .int .u64 0, .int .u64 0] 39
        have hb5 : Below (w1).heap.size (w1) ((w1).alloc (.cells #[.int .u64 0, .int .u64 0, .int .u64 0, .int .u64 0, .int .u64 0, .int .u64 0, .int .u64 0, .int .u64 0, .int .u64 0, .int .u64 0, .int .u64 0, .int .u64 0, .int .u64 0, .int .u64 0, .int .u64 0, .int .u64 0] 39)) := (Below.refl _ _).alloc (Nat.le_refl _) _
        have geBB : wz.heap.size ≤ (w1).heap.size := hS.size
        generalize hw5 : (w1).alloc (.cells #[.int .u64 0, .int .u64 0, .int .u64 0, .int .u64 0, .int .u64 0, .int .u64 0, .int .u64 0, .int .u64 0, .int .u64 0, .int .u64 0, .int .u64 0, .int .u64 0, .int .u64 0, .int .u64 0, .int .u64 0, .int .u64 0] 39) = w5 at BB hb5 ⊢
        clear hw5
        have hS5 := hS.trans (hb5.mono hS.size)
        clear hS
        refine hK.out _ _ ?_ (fun hHeld => ?_)
        · (try dsimp only)
          (first | assumption | exact (Below.refl _ _).drew)
        clear hK K
        try simp only [Act.put, List.getElem_toArray, List.getElem_cons_zero, List.getElem_cons_succ, List.setIfInBounds_toArray, List.set_cons_zero, List.set_cons_succ]
        refine wpAnyH_ready (rs := [3, 4]) (by kernel_rfl) (by simp) (AllReadyH.cons rfl (fun K hK => ?_) (AllReadyH.cons rfl (fun K hK => ?_) AllReadyH.nil))
        · have hS := (by assumption : Below _ wz _)
          (try go_simp)
          refine (slEnc_yes F s0 s1 s2 s3 s4 s5 s6 s7 _ HF.out hF0 hs0 hs1 hs2 hs3 hs4 hs5 hs6 hs7).mono ?_
          rintro e w3 ⟨rfl, hb3⟩
          have hS3 := hS.trans (hb3.mono hS.size)
          replace BB := BB.below hb3 BB.lt
          clear hS
          refine hK.out _ _ ?_ (fun hHeld => ?_)
          · (try dsimp only)
            (first | assumption | exact (Below.refl _ _).drew)
          clear hK K
          try simp only [Act.put, List.getElem_toArray, List.getElem_cons_zero, List.getElem_cons_succ, List.setIfInBounds_toArray, List.set_cons_zero, List.set_cons_succ]
          refine wpAnyH_ready (rs := [4]) (by kernel_rfl) (by simp) (AllReadyH.cons rfl (fun K hK => ?_) AllReadyH.nil)
          have hS := (by assumption : Below _ wz _)
          (try go_simp)
          have BA := Blk.new (w3) #[.int .u64 0, .int .u64 0, .int .u64 0, .int .u64 0, .int .u64 0, .int .u64 0, .int .u64 0, .int .u64 0, .int .u64 0, .int .u64 0, .int .u64 0, .int .u64 0, .int .u64 0, .int .u64 0, .int .u64 0, .int .u64 0] 39
          have hb4 : Below (w3).heap.size (w3) ((w3).alloc (.cells #[.int .u64 0, .int .u64 0, .int .u64 0, .int .u64 0, .int .u64 0, .int .u64 0, .int .u64 0, .int .u64 0, .int .u64 0, .int .u64 0, .int .u64 0, .int .u64 0, .int .u64 0, .int .u64 0, .int .u64 0, .int .u64 0] 39)) := (Below.refl _ _).alloc (Nat.le_refl _) _
          have geBA : wz.heap.size ≤ (w3).heap.size := hS.size
          have neBBBA : (w1).heap.size ≠ (w3).heap.size := Nat.ne_of_lt BB.lt
          generalize hw4 : (w3).alloc (.cells #[.int .u64 0, .int .u64 0, .int .u64 0, .int .u64 0, .int .u64 0, .int .u64 0, .int .u64 0, .int .u64 0, .int .u64 0, .int .u64 0, .int .u64 0, .int .u64 0, .int .u64 0, .int .u64 0, .int .u64 0, .int .u64 0] 39) = w4 at BA hb4 ⊢
          clear hw4
          have hS4 := hS.trans (hb4.mono hS.size)
          replace BB := BB.below hb4 BB.lt
          clear hS
          refine hK.out _ _ ?_ (fun hHeld => ?_)
          · (try dsimp only)
            (first | assumption | exact (Below.refl _ _).drew)
          clear hK K
          try simp only [Act.put, List.getElem_toArray, List.getElem_cons_zero, List.getElem_cons_succ, List.setIfInBounds_toArray, List.set_cons_zero, List.set_cons_succ]
          refine wpAnyH_ready (rs := [6]) (by kernel_rfl) (by simp) (AllReadyH.cons rfl (fun K hK => ?_) AllReadyH.nil)
          have hS := (by assumption : Below _ wz _)
          refine wanted_plain rfl ?_
          refine wp_store_row (P := Try.prog) 39 (.tmp 5) (.tmp 24) rfl (w3).heap.size #[.int .u64 E, .int .u64 r0, .int .u64 r1, .int .u64 r2, .int .u64 r3, .int .u64 0, .int .u64 0, .int .u64 (St.sum0 E r0 r1 r2 r3), .int .u64 E, .int .u64 r4, .int .u64 r5, .int .u64 r6, .int .u64 r7, .int .u64 1, .int .u64 0, .int .u64 (St.sum1 E r4 r5 r6 r7)] rfl rfl _ _ BA OI.out rfl OA.out ?_
          replace BA := BA.setRow #[.int .u64 E, .int .u64 r0, .int .u64 r1, .int .u64 r2, .int .u64 r3, .int .u64 0, .int .u64 0, .int .u64 (St.sum0 E r0 r1 r2 r3), .int .u64 E, .int .u64 r4, .int .u64 r5, .int .u64 r6, .int .u64 r7, .int .u64 1, .int .u64 0, .int .u64 (St.sum1 E r4 r5 r6 r7)]
          replace BB := BB.setRow_other #[.int .u64 E, .int .u64 r0, .int .u64 r1, .int .u64 r2, .int .u64 r3, .int .u64 0, .int .u64 0, .int .u64 (St.sum0 E r0 r1 r2 r3), .int .u64 E, .int .u64 r4, .int .u64 r5, .int .u64 r6, .int .u64 r7, .int .u64 1, .int .u64 0, .int .u64 (St.sum1 E r4 r5 r6 r7)] neBBBA
          have hS6 := below_setRow hS geBA #[.int .u64 E, .int .u64 r0, .int .u64 r1, .int .u64 r2, .int .u64 r3, .int .u64 0, .int .u64 0, .int .u64 (St.sum0 E r0 r1 r2 r3), .int .u64 E, .int .u64 r4, .int .u64 r5, .int .u64 r6, .int .u64 r7, .int .u64 1, .int .u64 0, .int .u64 (St.sum1 E r4 r5 r6 r7)]
          generalize hw6 : World.setRow (w4) (w3).heap.size #[.int .u64 E, .int .u64 r0, .int .u64 r1, .int .u64 r2, .int .u64 r3, .int .u64 0, .int .u64 0, .int .u64 (St.sum0 E r0 r1 r2 r3), .int .u64 E, .int .u64 r4, .int .u64 r5, .int .u64 r6, .int .u64 r7, .int .u64 1, .int .u64 0, .int .u64 (St.sum1 E r4 r5 r6 r7)] = w6 at hS6 BB BA ⊢
          clear hw6
          clear hS
          refine hK.out _ _ ?_ (fun hHeld => ?_)
          · (try dsimp only)
            (first | assumption | exact (Below.refl _ _).drew)
          clear hK K
          try simp only [Act.put, List.getElem_toArray, List.getElem_cons_zero, List.getElem_cons_succ, List.setIfInBounds_toArray, List.set_cons_zero, List.set_cons_succ]
          refine wpAnyH_ready (rs := [7]) (by kernel_rfl) (by simp) (AllReadyH.cons rfl (fun K hK => ?_) AllReadyH.nil)
          have hS := (by assumption : Below _ wz _)
          refine wanted_plain rfl ?_
          refine wp_store_row (P := Try.prog) 39 (.tmp 6) (.tmp 26) rfl (w1).heap.size #[.int .u64 F, .int .u64 s0, .int .u64 s1, .int .u64 s2, .int .u64 s3, .int .u64 0, .int .u64 0, .int .u64 (St.sum0 F s0 s1 s2 s3), .int .u64 F, .int .u64 s4, .int .u64 s5, .int .u64 s6, .int .u64 s7, .int .u64 1, .int .u64 0, .int .u64 (St.sum1 F s4 s5 s6 s7)] rfl rfl _ _ BB OI.out rfl OB.out ?_
          replace BB := BB.setRow #[.int .u64 F, .int .u64 s0, .int .u64 s1, .int .u64 s2, .int .u64 s3, .int .u64 0, .int .u64 0, .int .u64 (St.sum0 F s0 s1 s2 s3), .int .u64 F, .int .u64 s4, .int .u64 s5, .int .u64 s6, .int .u64 s7, .int .u64 1, .int .u64 0, .int .u64 (St.sum1 F s4 s5 s6 s7)]
          replace BA := BA.setRow_other #[.int .u64 F, .int .u64 s0, .int .u64 s1, .int .u64 s2, .int .u64 s3, .int .u64 0, .int .u64 0, .int .u64 (St.sum0 F s0 s1 s2 s3), .int .u64 F, .int .u64 s4, .int .u64 s5, .int .u64 s6, .int .u64 s7, .int .u64 1, .int .u64 0, .int .u64 (St.sum1 F s4 s5 s6 s7)] neBBBA.symm
          have hS7 := below_setRow hS geBB #[.int .u64 F, .int .u64 s0, .int .u64 s1, .int .u64 s2, .int .u64 s3, .int .u64 0, .int .u64 0, .int .u64 (St.sum0 F s0 s1 s2 s3), .int .u64 F, .int .u64 s4, .int .u64 s5, .int .u64 s6, .int .u64 s7, .int .u64 1, .int .u64 0, .int .u64 (St.sum1 F s4 s5 s6 s7)]
          generalize hw7 : World.setRow (w6) (w1).heap.size #[.int .u64 F, .int .u64 s0, .int .u64 s1, .int .u64 s2, .int .u64 s3, .int .u64 0, .int .u64 0, .int .u64 (St.sum0 F s0 s1 s2 s3), .int .u64 F, .int .u64 s4, .int .u64 s5, .int .u64 s6, .int .u64 s7, .int .u64 1, .int .u64 0, .int .u64 (St.sum1 F s4 s5 s6 s7)] = w7 at hS7 BB BA ⊢
          clear hw7
          clear hS
          refine hK.out _ _ ?_ (fun hHeld => ?_)
          · (try dsimp only)
            (first | assumption | exact (Below.refl _ _).drew)
          clear hK K
          try simp only [Act.put, List.getElem_toArray, List.getElem_cons_zero, List.getElem_cons_succ, List.setIfInBounds_toArray, List.set_cons_zero, List.set_cons_succ]
          refine wpAnyH_done (by kernel_rfl) ?_ _
          have hSF := (by assumption : Below _ wz _)
          go_wp2_with fail
          go_meet
          case rel => first | exact ⟨_, _, rfl, rfl, BA, BB, neBABB, hSF⟩ | exact ⟨_, _, rfl, rfl, BA, BB, neBBBA.symm, hSF⟩
        · have hS := (by assumption : Below _ wz _)
          (try go_simp)
          have BA := Blk.new (w5) #[.int .u64 0, .int .u64 0, .int .u64 0, .int .u64 0, .int .u64 0, .int .u64 0, .int .u64 0, .int .u64 0, .int .u64 0, .int .u64 0, .int .u64 0, .int .u64 0, .int .u64 0, .int .u64 0, .int .u64 0, .int .u64 0] 39
          have hb4 : Below (w5).heap.size (w5) ((w5).alloc (.cells #[.int .u64 0, .int .u64 0, .int .u64 0, .int .u64 0, .int .u64 0, .int .u64 0, .int .u64 0, .int .u64 0, .int .u64 0, .int .u64 0, .int .u64 0, .int .u64 0, .int .u64 0, .int .u64 0, .int .u64 0, .int .u64 0] 39)) := (Below.refl _ _).alloc (Nat.le_refl _) _
          have geBA : wz.heap.size ≤ (w5).heap.size := hS.size
          have neBBBA : (w1).heap.size ≠ (w5).heap.size := Nat.ne_of_lt BB.lt
          generalize hw4 : (w5).alloc (.cells #[.int .u64 0, .int .u64 0, .int .u64 0, .int .u64 0, .int .u64 0, .int .u64 0, .int .u64 0, .int .u64 0, .int .u64 0, .int .u64 0, .int .u64 0, .int .u64 0, .int .u64 0, .int .u64 0, .int .u64 0, .int .u64 0] 39) = w4 at BA hb4 ⊢
          clear hw4
          have hS4 := hS.trans (hb4.mono hS.size)
          replace BB := BB.below hb4 BB.lt
          clear hS
          refine hK.out _ _ ?_ (fun hHeld => ?_)
          · (try dsimp only)
            (first | assumption | exact (Below.refl _ _).drew)
          clear hK K
          try simp only [Act.put, List.getElem_toArray, List.getElem_cons_zero, List.getElem_cons_succ, List.setIfInBounds_toArray, List.set_cons_zero, List.set_cons_succ]
          refine wpAnyH_ready (rs := [3]) (by kernel_rfl) (by simp) (AllReadyH.cons rfl (fun K hK => ?_) AllReadyH.nil)
          have hS := (by assumption : Below _ wz _)
          (try go_simp)
          refine (slEnc_yes F s0 s1 s2 s3 s4 s5 s6 s7 _ HF.out hF0 hs0 hs1 hs2 hs3 hs4 hs5 hs6 hs7).mono ?_
          rintro e w3 ⟨rfl, hb3⟩
          have hS3 := hS.trans (hb3.mono hS.size)
          replace BB := BB.below hb3 BB.lt
          replace BA := BA.below hb3 BA.lt
          clear hS
          refine hK.out _ _ ?_ (fun hHeld => ?_)
          · (try dsimp only)
            (first | assumption | exact (Below.refl _ _).drew)
          clear hK K
          try simp only [Act.put, List.getElem_toArray, List.getElem_cons_zero, List.getElem_cons_succ, List.setIfInBounds_toArray, List.set_cons_zero, List.set_cons_succ]
          refine wpAnyH_ready (rs := [6]) (by kernel_rfl) (by simp) (AllReadyH.cons rfl (fun K hK => ?_) AllReadyH.nil)
          have hS := (by assumption : Below _ wz _)
          refine wanted_plain rfl ?_
          refine wp_store_row (P := Try.prog) 39 (.tmp 5) (.tmp 24) rfl (w5).heap.size #[.int .u64 E, .int .u64 r0, .int .u64 r1, .int .u64 r2, .int .u64 r3, .int .u64 0, .int .u64 0, .int .u64 (St.sum0 E r0 r1 r2 r3), .int .u64 E, .int .u64 r4, .int .u64 r5, .int .u64 r6, .int .u64 r7, .int .u64 1, .int .u64 0, .int .u64 (St.sum1 E r4 r5 r6 r7)] rfl rfl _ _ BA OI.out rfl OA.out ?_
          replace BA := BA.setRow #[.int .u64 E, .int .u64 r0, .int .u64 r1, .int .u64 r2, .int .u64 r3, .int .u64 0, .int .u64 0, .int .u64 (St.sum0 E r0 r1 r2 r3), .int .u64 E, .int .u64 r4, .int .u64 r5, .int .u64 r6, .int .u64 r7, .int .u64 1, .int .u64 0, .int .u64 (St.sum1 E r4 r5 r6 r7)]
          replace BB := BB.setRow_other #[.int .u64 E, .int .u64 r0, .int .u64 r1, .int .u64 r2, .int .u64 r3, .int .u64 0, .int .u64 0, .int .u64 (St.sum0 E r0 r1 r2 r3), .int .u64 E, .int .u64 r4, .int .u64 r5, .int .u64 r6, .int .u64 r7, .int .u64 1, .int .u64 0, .int .u64 (St.sum1 E r4 r5 r6 r7)] neBBBA
          have hS6 := below_setRow hS geBA #[.int .u64 E, .int .u64 r0, .int .u64 r1, .int .u64 r2, .int .u64 r3, .int .u64 0, .int .u64 0, .int .u64 (St.sum0 E r0 r1 r2 r3), .int .u64 E, .int .u64 r4, .int .u64 r5, .int .u64 r6, .int .u64 r7, .int .u64 1, .int .u64 0, .int .u64 (St.sum1 E r4 r5 r6 r7)]
          generalize hw6 : World.setRow (w3) (w5).heap.size #[.int .u64 E, .int .u64 r0, .int .u64 r1, .int .u64 r2, .int .u64 r3, .int .u64 0, .int .u64 0, .int .u64 (St.sum0 E r0 r1 r2 r3), .int .u64 E, .int .u64 r4, .int .u64 r5, .int .u64 r6, .int .u64 r7, .int .u64 1, .int .u64 0, .int .u64 (St.sum1 E r4 r5 r6 r7)] = w6 at hS6 BB BA ⊢
          clear hw6
          clear hS
          refine hK.out _ _ ?_ (fun hHeld => ?_)
          · (try dsimp only)
            (first | assumption | exact (Below.refl _ _).drew)
          clear hK K
          try simp only [Act.put, List.getElem_toArray, List.getElem_cons_zero, List.getElem_cons_succ, List.setIfInBounds_toArray, List.set_cons_zero, List.set_cons_succ]
          refine wpAnyH_ready (rs := [7]) (by kernel_rfl) (by simp) (AllReadyH.cons rfl (fun K hK => ?_) AllReadyH.nil)
          have hS := (by assumption : Below _ wz _)
          refine wanted_plain rfl ?_
          refine wp_store_row (P := Try.prog) 39 (.tmp 6) (.tmp 26) rfl (w1).heap.size #[.int .u64 F, .int .u64 s0, .int .u64 s1, .int .u64 s2, .int .u64 s3, .int .u64 0, .int .u64 0, .int .u64 (St.sum0 F s0 s1 s2 s3), .int .u64 F, .int .u64 s4, .int .u64 s5, .int .u64 s6, .int .u64 s7, .int .u64 1, .int .u64 0, .int .u64 (St.sum1 F s4 s5 s6 s7)] rfl rfl _ _ BB OI.out rfl OB.out ?_
          replace BB := BB.setRow #[.int .u64 F, .int .u64 s0, .int .u64 s1, .int .u64 s2, .int .u64 s3, .int .u64 0, .int .u64 0, .int .u64 (St.sum0 F s0 s1 s2 s3), .int .u64 F, .int .u64 s4, .int .u64 s5, .int .u64 s6, .int .u64 s7, .int .u64 1, .int .u64 0, .int .u64 (St.sum1 F s4 s5 s6 s7)]
          replace BA := BA.setRow_other #[.int .u64 F, .int .u64 s0, .int .u64 s1, .int .u64 s2, .int .u64 s3, .int .u64 0, .int .u64 0, .int .u64 (St.sum0 F s0 s1 s2 s3), .int .u64 F, .int .u64 s4, .int .u64 s5, .int .u64 s6, .int .u64 s7, .int .u64 1, .int .u64 0, .int .u64 (St.sum1 F s4 s5 s6 s7)] neBBBA.symm
          have hS7 := below_setRow hS geBB #[.int .u64 F, .int .u64 s0, .int .u64 s1, .int .u64 s2, .int .u64 s3, .int .u64 0, .int .u64 0, .int .u64 (St.sum0 F s0 s1 s2 s3), .int .u64 F, .int .u64 s4, .int .u64 s5, .int .u64 s6, .int .u64 s7, .int .u64 1, .int .u64 0, .int .u64 (St.sum1 F s4 s5 s6 s7)]
          generalize hw7 : World.setRow (w6) (w1).heap.size #[.int .u64 F, .int .u64 s0, .int .u64 s1, .int .u64 s2, .int .u64 s3, .int .u64 0, .int .u64 0, .int .u64 (St.sum0 F s0 s1 s2 s3), .int .u64 F, .int .u64 s4, .int .u64 s5, .int .u64 s6, .int .u64 s7, .int .u64 1, .int .u64 0, .int .u64 (St.sum1 F s4 s5 s6 s7)] = w7 at hS7 BB BA ⊢
          clear hw7
          clear hS
          refine hK.out _ _ ?_ (fun hHeld => ?_)
          · (try dsimp only)
            (first | assumption | exact (Below.refl _ _).drew)
          clear hK K
          try simp only [Act.put, List.getElem_toArray, List.getElem_cons_zero, List.getElem_cons_succ, List.setIfInBounds_toArray, List.set_cons_zero, List.set_cons_succ]
          refine wpAnyH_done (by kernel_rfl) ?_ _
          have hSF := (by assumption : Below _ wz _)
          go_wp2_with fail
          go_meet
          case rel => first | exact ⟨_, _, rfl, rfl, BA, BB, neBABB, hSF⟩ | exact ⟨_, _, rfl, rfl, BA, BB, neBBBA.symm, hSF⟩
    · have hS := (by assumption : Below _ wz _)
      (try go_simp)
      have BA := Blk.new (wD) #[.int .u64 0, .int .u64 0, .int .u64 0, .int .u64 0, .int .u64 0, .int .u64 0, .int .u64 0, .int .u64 0, .int .u64 0, .int .u64 0, .int .u64 0, .int .u64 0, .int .u64 0, .int .u64 0, .int .u64 0, .int .u64 0] 39
      have hb4 : Below (wD).heap.size (wD) ((wD).alloc (.cells #[.int .u64 0, .int .u64 0, .int .u64 0, .int .u64 0, .int .u64 0, .int .u64 0, .int .u64 0, .int .u64 0, .int .u64 0, .int .u64 0, .int .u64 0, .int .u64 0, .int .u64 0, .int .u64 0, .int .u64 0, .int .u64 0] 39)) := (Below.refl _ _).alloc (Nat.le_refl _) _
      have geBA : wz.heap.size ≤ (wD).heap.size := hS.size
      generalize hw4 : (wD).alloc (.cells #[.int .u64 0, .int .u64 0, .int .u64 0, .int .u64 0, .int .u64 0, .int .u64 0, .int .u64 0, .int .u64 0, .int .u64 0, .int .u64 0, .int .u64 0, .int .u64 0, .int .u64 0, .int .u64 0, .int .u64 0, .int .u64 0] 39) = w4 at BA hb4 ⊢
      clear hw4
      have hS4 := hS.trans (hb4.mono hS.size)
      clear hS
      refine hK.out _ _ ?_ (fun hHeld => ?_)
      · (try dsimp only)
        (first | assumption | exact (Below.refl _ _).drew)
      clear hK K
      try simp only [Act.put, List.getElem_toArray, List.getElem_cons_zero, List.getElem_cons_succ, List.setIfInBounds_toArray, List.set_cons_zero, List.set_cons_succ]
      refine wpAnyH_ready (rs := [1, 5]) (by kernel_rfl) (by simp) (AllReadyH.cons rfl (fun K hK => ?_) (AllReadyH.cons rfl (fun K hK => ?_) AllReadyH.nil))
      · have hS := (by assumption : Below _ wz _)
        (try go_simp)
        refine (slEnc_yes E r0 r1 r2 r3 r4 r5 r6 r7 _ HE.out hE0 hr0 hr1 hr2 hr3 hr4 hr5 hr6 hr7).mono ?_
        rintro e w1 ⟨rfl, hb1⟩
        have hS1 := hS.trans (hb1.mono hS.size)
        replace BA := BA.below hb1 BA.lt
        clear hS
        refine hK.out _ _ ?_ (fun hHeld => ?_)
        · (try dsimp only)
          (first | assumption | exact (Below.refl _ _).drew)
        clear hK K
        try simp only [Act.put, List.getElem_toArray, List.getElem_cons_zero, List.getElem_cons_succ, List.setIfInBounds_toArray, List.set_cons_zero, List.set_cons_succ]
        refine wpAnyH_ready (rs := [3, 5]) (by kernel_rfl) (by simp) (AllReadyH.cons rfl (fun K hK => ?_) (AllReadyH.cons rfl (fun K hK => ?_) AllReadyH.nil))
        · have hS := (by assumption : Below _ wz _)
          (try go_simp)
          refine (slEnc_yes F s0 s1 s2 s3 s4 s5 s6 s7 _ HF.out hF0 hs0 hs1 hs2 hs3 hs4 hs5 hs6 hs7).mono ?_
          rintro e w3 ⟨rfl, hb3⟩
          have hS3 := hS.trans (hb3.mono hS.size)
          replace BA := BA.below hb3 BA.lt
          clear hS
          refine hK.out _ _ ?_ (fun hHeld => ?_)
          · (try dsimp only)
            (first | assumption | exact (Below.refl _ _).drew)
          clear hK K
          try simp only [Act.put, List.getElem_toArray, List.getElem_cons_zero, List.getElem_cons_succ, List.setIfInBounds_toArray, List.set_cons_zero, List.set_cons_succ]
          refine wpAnyH_ready (rs := [5]) (by kernel_rfl) (by simp) (AllReadyH.cons rfl (fun K hK => ?_) AllReadyH.nil)
          have hS := (by assumption : Below _ wz _)
          (try go_simp)
          have BB := Blk.new (w3) #[.int .u64 0, .int .u64 0, .int .u64 0, .int .u64 0, .int .u64 0, .int .u64 0, .int .u64 0, .int .u64 0, .int .u64 0, .int .u64 0, .int .u64 0, .int .u64 0, .int .u64 0, .int .u64 0, .int .u64 0, .int .u64 0] 39
          have hb5 : Below (w3).heap.size (w3) ((w3).alloc (.cells #[.int .u64 0, .int .u64 0, .int .u64 0, .int .u64 0, .int .u64 0, .int .u64 0, .int .u64 0, .int .u64 0, .int .u64 0, .int .u64 0, .int .u64 0, .int .u64 0, .int .u64 0, .int .u64 0, .int .u64 0, .int .u64 0] 39)) := (Below.refl _ _).alloc (Nat.le_refl _) _
          have geBB : wz.heap.size ≤ (w3).heap.size := hS.size
          have neBABB : (wD).heap.size ≠ (w3).heap.size := Nat.ne_of_lt BA.lt
          generalize hw5 : (w3).alloc (.cells #[.int .u64 0, .int .u64 0, .int .u64 0, .int .u64 0, .int .u64 0, .int .u64 0, .int .u64 0, .int .u64 0, .int .u64 0, .int .u64 0, .int .u64 0, .int .u64 0, .int .u64 0, .int .u64 0, .int .u64 0, .int .u64 0] 39) = w5 at BB hb5 ⊢
          clear hw5
          have hS5 := hS.trans (hb5.mono hS.size)
          replace BA := BA.below hb5 BA.lt
          clear hS
          refine hK.out _ _ ?_ (fun hHeld => ?_)
          · (try dsimp only)
            (first | assumption | exact (Below.refl _ _).drew)
          clear hK K
          try simp only [Act.put, List.getElem_toArray, List.getElem_cons_zero, List.getElem_cons_succ, List.setIfInBounds_toArray, List.set_cons_zero, List.set_cons_succ]
          refine wpAnyH_ready (rs := [6]) (by kernel_rfl) (by simp) (AllReadyH.cons rfl (fun K hK => ?_) AllReadyH.nil)
          have hS := (by assumption : Below _ wz _)
          refine wanted_plain rfl ?_
          refine wp_store_row (P := Try.prog) 39 (.tmp 5) (.tmp 24) rfl (wD).heap.size #[.int .u64 E, .int .u64 r0, .int .u64 r1, .int .u64 r2, .int .u64 r3, .int .u64 0, .int .u64 0, .int .u64 (St.sum0 E r0 r1 r2 r3), .int .u64 E, .int .u64 r4, .int .u64 r5, .int .u64 r6, .int .u64 r7, .int .u64 1, .int .u64 0, .int .u64 (St.sum1 E r4 r5 r6 r7)] rfl rfl _ _ BA OI.out rfl OA.out ?_
          replace BA := BA.setRow #[.int .u64 E, .int .u64 r0, .int .u64 r1, .int .u64 r2, .int .u64 r3, .int .u64 0, .int .u64 0, .int .u64 (St.sum0 E r0 r1 r2 r3), .int .u64 E, .int .u64 r4, .int .u64 r5, .int .u64 r6, .int .u64 r7, .int .u64 1, .int .u64 0, .int .u64 (St.sum1 E r4 r5 r6 r7)]
          replace BB := BB.setRow_other #[.int .u64 E, .int .u64 r0, .int .u64 r1, .int .u64 r2, .int .u64 r3, .int .u64 0, .int .u64 0, .int .u64 (St.sum0 E r0 r1 r2 r3), .int .u64 E, .int .u64 r4, .int .u64 r5, .int .u64 r6, .int .u64 r7, .int .u64 1, .int .u64 0, .int .u64 (St.sum1 E r4 r5 r6 r7)] neBABB.symm
          have hS6 := below_setRow hS geBA #[.int .u64 E, .int .u64 r0, .int .u64 r1, .int .u64 r2, .int .u64 r3, .int .u64 0, .int .u64 0, .int .u64 (St.sum0 E r0 r1 r2 r3), .int .u64 E, .int .u64 r4, .int .u64 r5, .int .u64 r6, .int .u64 r7, .int .u64 1, .int .u64 0, .int .u64 (St.sum1 E r4 r5 r6 r7)]
          generalize hw6 : World.setRow (w5) (wD).heap.size #[.int .u64 E, .int .u64 r0, .int .u64 r1, .int .u64 r2, .int .u64 r3, .int .u64 0, .int .u64 0, .int .u64 (St.sum0 E r0 r1 r2 r3), .int .u64 E, .int .u64 r4, .int .u64 r5, .int .u64 r6, .int .u64 r7, .int .u64 1, .int .u64 0, .int .u64 (St.sum1 E r4 r5 r6 r7)] = w6 at hS6 BA BB ⊢
          clear hw6
          clear hS
          refine hK.out _ _ ?_ (fun hHeld => ?_)
          · (try dsimp only)
            (first | assumption | exact (Below.refl _ _).drew)
          clear hK K
          try simp only [Act.put, List.getElem_toArray, List.getElem_cons_zero, List.getElem_cons_succ, List.setIfInBounds_toArray, List.set_cons_zero, List.set_cons_succ]
          refine wpAnyH_ready (rs := [7]) (by kernel_rfl) (by simp) (AllReadyH.cons rfl (fun K hK => ?_) AllReadyH.nil)
          have hS := (by assumption : Below _ wz _)
          refine wanted_plain rfl ?_
          refine wp_store_row (P := Try.prog) 39 (.tmp 6) (.tmp 26) rfl (w3).heap.size #[.int .u64 F, .int .u64 s0, .int .u64 s1, .int .u64 s2, .int .u64 s3, .int .u64 0, .int .u64 0, .int .u64 (St.sum0 F s0 s1 s2 s3), .int .u64 F, .int .u64 s4, .int .u64 s5, .int .u64 s6, .int .u64 s7, .int .u64 1, .int .u64 0, .int .u64 (St.sum1 F s4 s5 s6 s7)] rfl rfl _ _ BB OI.out rfl OB.out ?_
          replace BB := BB.setRow #[.int .u64 F, .int .u64 s0, .int .u64 s1, .int .u64 s2, .int .u64 s3, .int .u64 0, .int .u64 0, .int .u64 (St.sum0 F s0 s1 s2 s3), .int .u64 F, .int .u64 s4, .int .u64 s5, .int .u64 s6, .int .u64 s7, .int .u64 1, .int .u64 0, .int .u64 (St.sum1 F s4 s5 s6 s7)]
          replace BA := BA.setRow_other #[.int .u64 F, .int .u64 s0, .int .u64 s1, .int .u64 s2, .int .u64 s3, .int .u64 0, .int .u64 0, .int .u64 (St.sum0 F s0 s1 s2 s3), .int .u64 F, .int .u64 s4, .int .u64 s5, .int .u64 s6, .int .u64 s7, .int .u64 1, .int .u64 0, .int .u64 (St.sum1 F s4 s5 s6 s7)] neBABB
          have hS7 := below_setRow hS geBB #[.int .u64 F, .int .u64 s0, .int .u64 s1, .int .u64 s2, .int .u64 s3, .int .u64 0, .int .u64 0, .int .u64 (St.sum0 F s0 s1 s2 s3), .int .u64 F, .int .u64 s4, .int .u64 s5, .int .u64 s6, .int .u64 s7, .int .u64 1, .int .u64 0, .int .u64 (St.sum1 F s4 s5 s6 s7)]
          generalize hw7 : World.setRow (w6) (w3).heap.size #[.int .u64 F, .int .u64 s0, .int .u64 s1, .int .u64 s2, .int .u64 s3, .int .u64 0, .int .u64 0, .int .u64 (St.sum0 F s0 s1 s2 s3), .int .u64 F, .int .u64 s4, .int .u64 s5, .int .u64 s6, .int .u64 s7, .int .u64 1, .int .u64 0, .int .u64 (St.sum1 F s4 s5 s6 s7)] = w7 at hS7 BA BB ⊢
          clear hw7
          clear hS
          refine hK.out _ _ ?_ (fun hHeld => ?_)
          · (try dsimp only)
            (first | assumption | exact (Below.refl _ _).drew)
          clear hK K
          try simp only [Act.put, List.getElem_toArray, List.getElem_cons_zero, List.getElem_cons_succ, List.setIfInBounds_toArray, List.set_cons_zero, List.set_cons_succ]
          refine wpAnyH_done (by kernel_rfl) ?_ _
          have hSF := (by assumption : Below _ wz _)
          go_wp2_with fail
          go_meet
          case rel => first | exact ⟨_, _, rfl, rfl, BA, BB, neBABB, hSF⟩ | exact ⟨_, _, rfl, rfl, BA, BB, neBBBA.symm, hSF⟩
        · have hS := (by assumption : Below _ wz _)
          (try go_simp)
          have BB := Blk.new (w1) #[.int .u64 0, .int .u64 0, .int .u64 0, .int .u64 0, .int .u64 0, .int .u64 0, .int .u64 0, .int .u64 0, .int .u64 0, .int .u64 0, .int .u64 0, .int .u64 0, .int .u64 0, .int .u64 0, .int .u64 0, .int .u64 0] 39
          have hb5 : Below (w1).heap.size (w1) ((w1).alloc (.cells #[.int .u64 0, .int .u64 0, .int .u64 0, .int .u64 0, .int .u64 0, .int .u64 0, .int .u64 0, .int .u64 0, .int .u64 0, .int .u64 0, .int .u64 0, .int .u64 0, .int .u64 0, .int .u64 0, .int .u64 0, .int .u64 0] 39)) := (Below.refl _ _).alloc (Nat.le_refl _) _
          have geBB : wz.heap.size ≤ (w1).heap.size := hS.size
          have neBABB : (wD).heap.size ≠ (w1).heap.size := Nat.ne_of_lt BA.lt
          generalize hw5 : (w1).alloc (.cells #[.int .u64 0, .int .u64 0, .int .u64 0, .int .u64 0, .int .u64 0, .int .u64 0, .int .u64 0, .int .u64 0, .int .u64 0, .int .u64 0, .int .u64 0, .int .u64 0, .int .u64 0, .int .u64 0, .int .u64 0, .int .u64 0] 39) = w5 at BB hb5 ⊢
          clear hw5
          have hS5 := hS.trans (hb5.mono hS.size)
          replace BA := BA.below hb5 BA.lt
          clear hS
          refine hK.out _ _ ?_ (fun hHeld => ?_)
          · (try dsimp only)
            (first | assumption | exact (Below.refl _ _).drew)
          clear hK K
          try simp only [Act.put, List.getElem_toArray, List.getElem_cons_zero, List.getElem_cons_succ, List.setIfInBounds_toArray, List.set_cons_zero, List.set_cons_succ]
          refine wpAnyH_ready (rs := [3]) (by kernel_rfl) (by simp) (AllReadyH.cons rfl (fun K hK => ?_) AllReadyH.nil)
          have hS := (by assumption : Below _ wz _)
          (try go_simp)
          refine (slEnc_yes F s0 s1 s2 s3 s4 s5 s6 s7 _ HF.out hF0 hs0 hs1 hs2 hs3 hs4 hs5 hs6 hs7).mono ?_
          rintro e w3 ⟨rfl, hb3⟩
          have hS3 := hS.trans (hb3.mono hS.size)
          replace BA := BA.below hb3 BA.lt
          replace BB := BB.below hb3 BB.lt
          clear hS
          refine hK.out _ _ ?_ (fun hHeld => ?_)
          · (try dsimp only)
            (first | assumption | exact (Below.refl _ _).drew)
          clear hK K
          try simp only [Act.put, List.getElem_toArray, List.getElem_cons_zero, List.getElem_cons_succ, List.setIfInBounds_toArray, List.set_cons_zero, List.set_cons_succ]
          refine wpAnyH_ready (rs := [6]) (by kernel_rfl) (by simp) (AllReadyH.cons rfl (fun K hK => ?_) AllReadyH.nil)
          have hS := (by assumption : Below _ wz _)
          refine wanted_plain rfl ?_
          refine wp_store_row (P := Try.prog) 39 (.tmp 5) (.tmp 24) rfl (wD).heap.size #[.int .u64 E, .int .u64 r0, .int .u64 r1, .int .u64 r2, .int .u64 r3, .int .u64 0, .int .u64 0, .int .u64 (St.sum0 E r0 r1 r2 r3), .int .u64 E, .int .u64 r4, .int .u64 r5, .int .u64 r6, .int .u64 r7, .int .u64 1, .int .u64 0, .int .u64 (St.sum1 E r4 r5 r6 r7)] rfl rfl _ _ BA OI.out rfl OA.out ?_
          replace BA := BA.setRow #[.int .u64 E, .int .u64 r0, .int .u64 r1, .int .u64 r2, .int .u64 r3, .int .u64 0, .int .u64 0, .int .u64 (St.sum0 E r0 r1 r2 r3), .int .u64 E, .int .u64 r4, .int .u64 r5, .int .u64 r6, .int .u64 r7, .int .u64 1, .int .u64 0, .int .u64 (St.sum1 E r4 r5 r6 r7)]
          replace BB := BB.setRow_other #[.int .u64 E, .int .u64 r0, .int .u64 r1, .int .u64 r2, .int .u64 r3, .int .u64 0, .int .u64 0, .int .u64 (St.sum0 E r0 r1 r2 r3), .int .u64 E, .int .u64 r4, .int .u64 r5, .int .u64 r6, .int .u64 r7, .int .u64 1, .int .u64 0, .int .u64 (St.sum1 E r4 r5 r6 r7)] neBABB.symm
          have hS6 := below_setRow hS geBA #[.int .u64 E, .int .u64 r0, .int .u64 r1, .int .u64 r2, .int .u64 r3, .int .u64 0, .int .u64 0, .int .u64 (St.sum0 E r0 r1 r2 r3), .int .u64 E, .int .u64 r4, .int .u64 r5, .int .u64 r6, .int .u64 r7, .int .u64 1, .int .u64 0, .int .u64 (St.sum1 E r4 r5 r6 r7)]
          generalize hw6 : World.setRow (w3) (wD).heap.size #[.int .u64 E, .int .u64 r0, .int .u64 r1, .int .u64 r2, .int .u64 r3, .int .u64 0, .int .u64 0, .int .u64 (St.sum0 E r0 r1 r2 r3), .int .u64 E, .int .u64 r4, .int .u64 r5, .int .u64 r6, .int .u64 r7, .int .u64 1, .int .u64 0, .int .u64 (St.sum1 E r4 r5 r6 r7)] = w6 at hS6 BA BB ⊢
          clear hw6
          clear hS
          refine hK.out _ _ ?_ (fun hHeld => ?_)
          · (try dsimp only)
            (first | assumption | exact (Below.refl _ _).drew)
          clear hK K
          try simp only [Act.put, List.getElem_toArray, List.getElem_cons_zero, List.getElem_cons_succ, List.setIfInBounds_toArray, List.set_cons_zero, List.set_cons_succ]
          refine wpAnyH_ready (rs := [7]) (by kernel_rfl) (by simp) (AllReadyH.cons rfl (fun K hK => ?_) AllReadyH.nil)
          have hS := (by assumption : Below _ wz _)
          refine wanted_plain rfl ?_
          refine wp_store_row (P := Try.prog) 39 (.tmp 6) (.tmp 26) rfl (w1).heap.size #[.int .u64 F, .int .u64 s0, .int .u64 s1, .int .u64 s2, .int .u64 s3, .int .u64 0, .int .u64 0, .int .u64 (St.sum0 F s0 s1 s2 s3), .int .u64 F, .int .u64 s4, .int .u64 s5, .int .u64 s6, .int .u64 s7, .int .u64 1, .int .u64 0, .int .u64 (St.sum1 F s4 s5 s6 s7)] rfl rfl _ _ BB OI.out rfl OB.out ?_
          replace BB := BB.setRow #[.int .u64 F, .int .u64 s0, .int .u64 s1, .int .u64 s2, .int .u64 s3, .int .u64 0, .int .u64 0, .int .u64 (St.sum0 F s0 s1 s2 s3), .int .u64 F, .int .u64 s4, .int .u64 s5, .int .u64 s6, .int .u64 s7, .int .u64 1, .int .u64 0, .int .u64 (St.sum1 F s4 s5 s6 s7)]
          replace BA := BA.setRow_other #[.int .u64 F, .int .u64 s0, .int .u64 s1, .int .u64 s2, .int .u64 s3, .int .u64 0, .int .u64 0, .int .u64 (St.sum0 F s0 s1 s2 s3), .int .u64 F, .int .u64 s4, .int .u64 s5, .int .u64 s6, .int .u64 s7, .int .u64 1, .int .u64 0, .int .u64 (St.sum1 F s4 s5 s6 s7)] neBABB
          have hS7 := below_setRow hS geBB #[.int .u64 F, .int .u64 s0, .int .u64 s1, .int .u64 s2, .int .u64 s3, .int .u64 0, .int .u64 0, .int .u64 (St.sum0 F s0 s1 s2 s3), .int .u64 F, .int .u64 s4, .int .u64 s5, .int .u64 s6, .int .u64 s7, .int .u64 1, .int .u64 0, .int .u64 (St.sum1 F s4 s5 s6 s7)]
          generalize hw7 : World.setRow (w6) (w1).heap.size #[.int .u64 F, .int .u64 s0, .int .u64 s1, .int .u64 s2, .int .u64 s3, .int .u64 0, .int .u64 0, .int .u64 (St.sum0 F s0 s1 s2 s3), .int .u64 F, .int .u64 s4, .int .u64 s5, .int .u64 s6, .int .u64 s7, .int .u64 1, .int .u64 0, .int .u64 (St.sum1 F s4 s5 s6 s7)] = w7 at hS7 BA BB ⊢
          clear hw7
          clear hS
          refine hK.out _ _ ?_ (fun hHeld => ?_)
          · (try dsimp only)
            (first | assumption | exact (Below.refl _ _).drew)
          clear hK K
          try simp only [Act.put, List.getElem_toArray, List.getElem_cons_zero, List.getElem_cons_succ, List.setIfInBounds_toArray, List.set_cons_zero, List.set_cons_succ]
          refine wpAnyH_done (by kernel_rfl) ?_ _
          have hSF := (by assumption : Below _ wz _)
          go_wp2_with fail
          go_meet
          case rel => first | exact ⟨_, _, rfl, rfl, BA, BB, neBABB, hSF⟩ | exact ⟨_, _, rfl, rfl, BA, BB, neBBBA.symm, hSF⟩
      · have hS := (by assumption : Below _ wz _)
        (try go_simp)
        have BB := Blk.new (w4) #[.int .u64 0, .int .u64 0, .int .u64 0, .int .u64 0, .int .u64 0, .int .u64 0, .int .u64 0, .int .u64 0, .int .u64 0, .int .u64 0, .int .u64 0, .int .u64 0, .int .u64 0, .int .u64 0, .int .u64 0, .int .u64 0] 39
        have hb5 : Below (w4).heap.size (w4) ((w4).alloc (.cells #[.int .u64 0, .int .u64 0, .int .u64 0, .int .u64 0, .int .u64 0, .int .u64 0, .int .u64 0, .int .u64 0, .int .u64 0, .int .u64 0, .int .u64 0, .int .u64 0, .int .u64 0, .int .u64 0, .int .u64 0, .int .u64 0] 39)) := (Below.refl _ _).alloc (Nat.le_refl _) _
        have geBB : wz.heap.size ≤ (w4).heap.size := hS.size
        have neBABB : (wD).heap.size ≠ (w4).heap.size := Nat.ne_of_lt BA.lt
        generalize hw5 : (w4).alloc (.cells #[.int .u64 0, .int .u64 0, .int .u64 0, .int .u64 0, .int .u64 0, .int .u64 0, .int .u64 0, .int .u64 0, .int .u64 0, .int .u64 0, .int .u64 0, .int .u64 0, .int .u64 0, .int .u64 0, .int .u64 0, .int .u64 0] 39) = w5 at BB hb5 ⊢
        clear hw5
        have hS5 := hS.trans (hb5.mono hS.size)
        replace BA := BA.below hb5 BA.lt
        clear hS
        refine hK.out _ _ ?_ (fun hHeld => ?_)
        · (try dsimp only)
          (first | assumption | exact (Below.refl _ _).drew)
        clear hK K
        try simp only [Act.put, List.getElem_toArray, List.getElem_cons_zero, List.getElem_cons_succ, List.setIfInBounds_toArray, List.set_cons_zero, List.set_cons_succ]
        refine wpAnyH_ready (rs := [1]) (by kernel_rfl) (by simp) (AllReadyH.cons rfl (fun K hK => ?_) AllReadyH.nil)
        have hS := (by assumption : Below _ wz _)
        (try go_simp)
        refine (slEnc_yes E r0 r1 r2 r3 r4 r5 r6 r7 _ HE.out hE0 hr0 hr1 hr2 hr3 hr4 hr5 hr6 hr7).mono ?_
        rintro e w1 ⟨rfl, hb1⟩
        have hS1 := hS.trans (hb1.mono hS.size)
        replace BA := BA.below hb1 BA.lt
        replace BB := BB.below hb1 BB.lt
        clear hS
        refine hK.out _ _ ?_ (fun hHeld => ?_)
        · (try dsimp only)
          (first | assumption | exact (Below.refl _ _).drew)
        clear hK K
        try simp only [Act.put, List.getElem_toArray, List.getElem_cons_zero, List.getElem_cons_succ, List.setIfInBounds_toArray, List.set_cons_zero, List.set_cons_succ]
        refine wpAnyH_ready (rs := [3]) (by kernel_rfl) (by simp) (AllReadyH.cons rfl (fun K hK => ?_) AllReadyH.nil)
        have hS := (by assumption : Below _ wz _)
        (try go_simp)
        refine (slEnc_yes F s0 s1 s2 s3 s4 s5 s6 s7 _ HF.out hF0 hs0 hs1 hs2 hs3 hs4 hs5 hs6 hs7).mono ?_
        rintro e w3 ⟨rfl, hb3⟩
        have hS3 := hS.trans (hb3.mono hS.size)
        replace BA := BA.below hb3 BA.lt
        replace BB := BB.below hb3 BB.lt
        clear hS
        refine hK.out _ _ ?_ (fun hHeld => ?_)
        · (try dsimp only)
          (first | assumption | exact (Below.refl _ _).drew)
        clear hK K
        try simp only [Act.put, List.getElem_toArray, List.getElem_cons_zero, List.getElem_cons_succ, List.setIfInBounds_toArray, List.set_cons_zero, List.set_cons_succ]
        refine wpAnyH_ready (rs := [6]) (by kernel_rfl) (by simp) (AllReadyH.cons rfl (fun K hK => ?_) AllReadyH.nil)
        have hS := (by assumption : Below _ wz _)
        refine wanted_plain rfl ?_
        refine wp_store_row (P := Try.prog) 39 (.tmp 5) (.tmp 24) rfl (wD).heap.size #[.int .u64 E, .int .u64 r0, .int .u64 r1, .int .u64 r2, .int .u64 r3, .int .u64 0, .int .u64 0, .int .u64 (St.sum0 E r0 r1 r2 r3), .int .u64 E, .int .u64 r4, .int .u64 r5, .int .u64 r6, .int .u64 r7, .int .u64 1, .int .u64 0, .int .u64 (St.sum1 E r4 r5 r6 r7)] rfl rfl _ _ BA OI.out rfl OA.out ?_
        replace BA := BA.setRow #[.int .u64 E, .int .u64 r0, .int .u64 r1, .int .u64 r2, .int .u64 r3, .int .u64 0, .int .u64 0, .int .u64 (St.sum0 E r0 r1 r2 r3), .int .u64 E, .int .u64 r4, .int .u64 r5, .int .u64 r6, .int .u64 r7, .int .u64 1, .int .u64 0, .int .u64 (St.sum1 E r4 r5 r6 r7)]
        replace BB := BB.setRow_other #[.int .u64 E, .int .u64 r0, .int .u64 r1, .int .u64 r2, .int .u64 r3, .int .u64 0, .int .u64 0, .int .u64 (St.sum0 E r0 r1 r2 r3), .int .u64 E, .int .u64 r4, .int .u64 r5, .int .u64 r6, .int .u64 r7, .int .u64 1, .int .u64 0, .int .u64 (St.sum1 E r4 r5 r6 r7)] neBABB.symm
        have hS6 := below_setRow hS geBA #[.int .u64 E, .int .u64 r0, .int .u64 r1, .int .u64 r2, .int .u64 r3, .int .u64 0, .int .u64 0, .int .u64 (St.sum0 E r0 r1 r2 r3), .int .u64 E, .int .u64 r4, .int .u64 r5, .int .u64 r6, .int .u64 r7, .int .u64 1, .int .u64 0, .int .u64 (St.sum1 E r4 r5 r6 r7)]
        generalize hw6 : World.setRow (w3) (wD).heap.size #[.int .u64 E, .int .u64 r0, .int .u64 r1, .int .u64 r2, .int .u64 r3, .int .u64 0, .int .u64 0, .int .u64 (St.sum0 E r0 r1 r2 r3), .int .u64 E, .int .u64 r4, .int .u64 r5, .int .u64 r6, .int .u64 r7, .int .u64 1, .int .u64 0, .int .u64 (St.sum1 E r4 r5 r6 r7)] = w6 at hS6 BA BB ⊢
        clear hw6
        clear hS
        refine hK.out _ _ ?_ (fun hHeld => ?_)
        · (try dsimp only)
          (first | assumption | exact (Below.refl _ _).drew)
        clear hK K
        try simp only [Act.put, List.getElem_toArray, List.getElem_cons_zero, List.getElem_cons_succ, List.setIfInBounds_toArray, List.set_cons_zero, List.set_cons_succ]
        refine wpAnyH_ready (rs := [7]) (by kernel_rfl) (by simp) (AllReadyH.cons rfl (fun K hK => ?_) AllReadyH.nil)
        have hS := (by assumption : Below _ wz _)
        refine wanted_plain rfl ?_
        refine wp_store_row (P := Try.prog) 39 (.tmp 6) (.tmp 26) rfl (w4).heap.size #[.int .u64 F, .int .u64 s0, .int .u64 s1, .int .u64 s2, .int .u64 s3, .int .u64 0, .int .u64 0, .int .u64 (St.sum0 F s0 s1 s2 s3), .int .u64 F, .int .u64 s4, .int .u64 s5, .int .u64 s6, .int .u64 s7, .int .u64 1, .int .u64 0, .int .u64 (St.sum1 F s4 s5 s6 s7)] rfl rfl _ _ BB OI.out rfl OB.out ?_
        replace BB := BB.setRow #[.int .u64 F, .int .u64 s0, .int .u64 s1, .int .u64 s2, .int .u64 s3, .int .u64 0, .int .u64 0, .int .u64 (St.sum0 F s0 s1 s2 s3), .int .u64 F, .int .u64 s4, .int .u64 s5, .int .u64 s6, .int .u64 s7, .int .u64 1, .int .u64 0, .int .u64 (St.sum1 F s4 s5 s6 s7)]
        replace BA := BA.setRow_other #[.int .u64 F, .int .u64 s0, .int .u64 s1, .int .u64 s2, .int .u64 s3, .int .u64 0, .int .u64 0, .int .u64 (St.sum0 F s0 s1 s2 s3), .int .u64 F, .int .u64 s4, .int .u64 s5, .int .u64 s6, .int .u64 s7, .int .u64 1, .int .u64 0, .int .u64 (St.sum1 F s4 s5 s6 s7)] neBABB
        have hS7 := below_setRow hS geBB #[.int .u64 F, .int .u64 s0, .int .u64 s1, .int .u64 s2, .int .u64 s3, .int .u64 0, .int .u64 0, .int .u64 (St.sum0 F s0 s1 s2 s3), .int .u64 F, .int .u64 s4, .int .u64 s5, .int .u64 s6, .int .u64 s7, .int .u64 1, .int .u64 0, .int .u64 (St.sum1 F s4 s5 s6 s7)]
        generalize hw7 : World.setRow (w6) (w4).heap.size #[.int .u64 F, .int .u64 s0, .int .u64 s1, .int .u64 s2, .int .u64 s3, .int .u64 0, .int .u64 0, .int .u64 (St.sum0 F s0 s1 s2 s3), .int .u64 F, .int .u64 s4, .int .u64 s5, .int .u64 s6, .int .u64 s7, .int .u64 1, .int .u64 0, .int .u64 (St.sum1 F s4 s5 s6 s7)] = w7 at hS7 BA BB ⊢
        clear hw7
        clear hS
        refine hK.out _ _ ?_ (fun hHeld => ?_)
        · (try dsimp only)
          (first | assumption | exact (Below.refl _ _).drew)
        clear hK K
        try simp only [Act.put, List.getElem_toArray, List.getElem_cons_zero, List.getElem_cons_succ, List.setIfInBounds_toArray, List.set_cons_zero, List.set_cons_succ]
        refine wpAnyH_done (by kernel_rfl) ?_ _
        have hSF := (by assumption : Below _ wz _)
        go_wp2_with fail
        go_meet
        case rel => first | exact ⟨_, _, rfl, rfl, BA, BB, neBABB, hSF⟩ | exact ⟨_, _, rfl, rfl, BA, BB, neBBBA.symm, hSF⟩
    · have hS := (by assumption : Below _ wz _)
      (try go_simp)
      have BB := Blk.new (wD) #[.int .u64 0, .int .u64 0, .int .u64 0, .int .u64 0, .int .u64 0, .int .u64 0, .int .u64 0, .int .u64 0, .int .u64 0, .int .u64 0, .int .u64 0, .int .u64 0, .int .u64 0, .int .u64 0, .int .u64 0, .int .u64 0] 39
      have hb5 : Below (wD).heap.size (wD) ((wD).alloc (.cells #[.int .u64 0, .int .u64 0, .int .u64 0, .int .u64 0, .int .u64 0, .int .u64 0, .int .u64 0, .int .u64 0, .int .u64 0, .int .u64 0, .int .u64 0, .int .u64 0, .int .u64 0, .int .u64 0, .int .u64 0, .int .u64 0] 39)) := (Below.refl _ _).alloc (Nat.le_refl _) _
      have geBB : wz.heap.size ≤ (wD).heap.size := hS.size
      generalize hw5 : (wD).alloc (.cells #[.int .u64 0, .int .u64 0, .int .u64 0, .int .u64 0, .int .u64 0, .int .u64 0, .int .u64 0, .int .u64 0, .int .u64 0, .int .u64 0, .int .u64 0, .int .u64 0, .int .u64 0, .int .u64 0, .int .u64 0, .int .u64 0] 39) = w5 at BB hb5 ⊢
      clear hw5
      have hS5 := hS.trans (hb5.mono hS.size)
      clear hS
      refine hK.out _ _ ?_ (fun hHeld => ?_)
      · (try dsimp only)
        (first | assumption | exact (Below.refl _ _).drew)
      clear hK K
      try simp only [Act.put, List.getElem_toArray, List.getElem_cons_zero, List.getElem_cons_succ, List.setIfInBounds_toArray, List.set_cons_zero, List.set_cons_succ]
      refine wpAnyH_ready (rs := [1, 4]) (by kernel_rfl) (by simp) (AllReadyH.cons rfl (fun K hK => ?_) (AllReadyH.cons rfl (fun K hK => ?_) AllReadyH.nil))
      · have hS := (by assumption : Below _ wz _)
        (try go_simp)
        refine (slEnc_yes E r0 r1 r2 r3 r4 r5 r6 r7 _ HE.out hE0 hr0 hr1 hr2 hr3 hr4 hr5 hr6 hr7).mono ?_
        rintro e w1 ⟨rfl, hb1⟩
        have hS1 := hS.trans (hb1.mono hS.size)
        replace BB := BB.below hb1 BB.lt
        clear hS
        refine hK.out _ _ ?_ (fun hHeld => ?_)
        · (try dsimp only)
          (first | assumption | exact (Below.refl _ _).drew)
        clear hK K
        try simp only [Act.put, List.getElem_toArray, List.getElem_cons_zero, List.getElem_cons_succ, List.setIfInBounds_toArray, List.set_cons_zero, List.set_cons_succ]
        refine wpAnyH_ready (rs := [3, 4]) (by kernel_rfl) (by simp) (AllReadyH.cons rfl (fun K hK => ?_) (AllReadyH.cons rfl (fun K hK => ?_) AllReadyH.nil))
        · have hS := (by assumption : Below _ wz _)
          (try go_simp)
          refine (slEnc_yes F s0 s1 s2 s3 s4 s5 s6 s7 _ HF.out hF0 hs0 hs1 hs2 hs3 hs4 hs5 hs6 hs7).mono ?_
          rintro e w3 ⟨rfl, hb3⟩
          have hS3 := hS.trans (hb3.mono hS.size)
          replace BB := BB.below hb3 BB.lt
          clear hS
          refine hK.out _ _ ?_ (fun hHeld => ?_)
          · (try dsimp only)
            (first | assumption | exact (Below.refl _ _).drew)
          clear hK K
          try simp only [Act.put, List.getElem_toArray, List.getElem_cons_zero, List.getElem_cons_succ, List.setIfInBounds_toArray, List.set_cons_zero, List.set_cons_succ]
          refine wpAnyH_ready (rs := [4]) (by kernel_rfl) (by simp) (AllReadyH.cons rfl (fun K hK => ?_) AllReadyH.nil)
          have hS := (by assumption : Below _ wz _)
          (try go_simp)
          have BA := Blk.new (w3) #[.int .u64 0, .int .u64 0, .int .u64 0, .int .u64 0, .int .u64 0, .int .u64 0, .int .u64 0, .int .u64 0, .int .u64 0, .int .u64 0, .int .u64 0, .int .u64 0, .int .u64 0, .int .u64 0, .int .u64 0, .int .u64 0] 39
          have hb4 : Below (w3).heap.size (w3) ((w3).alloc (.cells #[.int .u64 0, .int .u64 0, .int .u64 0, .int .u64 0, .int .u64 0, .int .u64 0, .int .u64 0, .int .u64 0, .int .u64 0, .int .u64 0, .int .u64 0, .int .u64 0, .int .u64 0, .int .u64 0, .int .u64 0, .int .u64 0] 39)) := (Below.refl _ _).alloc (Nat.le_refl _) _
          have geBA : wz.heap.size ≤ (w3).heap.size := hS.size
          have neBBBA : (wD).heap.size ≠ (w3).heap.size := Nat.ne_of_lt BB.lt
          generalize hw4 : (w3).alloc (.cells #[.int .u64 0, .int .u64 0, .int .u64 0, .int .u64 0, .int .u64 0, .int .u64 0, .int .u64 0, .int .u64 0, .int .u64 0, .int .u64 0, .int .u64 0, .int .u64 0, .int .u64 0, .int .u64 0, .int .u64 0, .int .u64 0] 39) = w4 at BA hb4 ⊢
          clear hw4
          have hS4 := hS.trans (hb4.mono hS.size)
          replace BB := BB.below hb4 BB.lt
          clear hS
          refine hK.out _ _ ?_ (fun hHeld => ?_)
          · (try dsimp only)
            (first | assumption | exact (Below.refl _ _).drew)
          clear hK K
          try simp only [Act.put, List.getElem_toArray, List.getElem_cons_zero, List.getElem_cons_succ, List.setIfInBounds_toArray, List.set_cons_zero, List.set_cons_succ]
          refine wpAnyH_ready (rs := [6]) (by kernel_rfl) (by simp) (AllReadyH.cons rfl (fun K hK => ?_) AllReadyH.nil)
          have hS := (by assumption : Below _ wz _)
          refine wanted_plain rfl ?_
          refine wp_store_row (P := Try.prog) 39 (.tmp 5) (.tmp 24) rfl (w3).heap.size #[.int .u64 E, .int .u64 r0, .int .u64 r1, .int .u64 r2, .int .u64 r3, .int .u64 0, .int .u64 0, .int .u64 (St.sum0 E r0 r1 r2 r3), .int .u64 E, .int .u64 r4, .int .u64 r5, .int .u64 r6, .int .u64 r7, .int .u64 1, .int .u64 0, .int .u64 (St.sum1 E r4 r5 r6 r7)] rfl rfl _ _ BA OI.out rfl OA.out ?_
          replace BA := BA.setRow #[.int .u64 E, .int .u64 r0, .int .u64 r1, .int .u64 r2, .int .u64 r3, .int .u64 0, .int .u64 0, .int .u64 (St.sum0 E r0 r1 r2 r3), .int .u64 E, .int .u64 r4, .int .u64 r5, .int .u64 r6, .int .u64 r7, .int .u64 1, .int .u64 0, .int .u64 (St.sum1 E r4 r5 r6 r7)]
          replace BB := BB.setRow_other #[.int .u64 E, .int .u64 r0, .int .u64 r1, .int .u64 r2, .int .u64 r3, .int .u64 0, .int .u64 0, .int .u64 (St.sum0 E r0 r1 r2 r3), .int .u64 E, .int .u64 r4, .int .u64 r5, .int .u64 r6, .int .u64 r7, .int .u64 1, .int .u64 0, .int .u64 (St.sum1 E r4 r5 r6 r7)] neBBBA
          have hS6 := below_setRow hS geBA #[.int .u64 E, .int .u64 r0, .int .u64 r1, .int .u64 r2, .int .u64 r3, .int .u64 0, .int .u64 0, .int .u64 (St.sum0 E r0 r1 r2 r3), .int .u64 E, .int .u64 r4, .int .u64 r5, .int .u64 r6, .int .u64 r7, .int .u64 1, .int .u64 0, .int .u64 (St.sum1 E r4 r5 r6 r7)]
          generalize hw6 : World.setRow (w4) (w3).heap.size #[.int .u64 E, .int .u64 r0, .int .u64 r1, .int .u64 r2, .int .u64 r3, .int .u64 0, .int .u64 0, .int .u64 (St.sum0 E r0 r1 r2 r3), .int .u64 E, .int .u64 r4, .int .u64 r5, .int .u64 r6, .int .u64 r7, .int .u64 1, .int .u64 0, .int .u64 (St.sum1 E r4 r5 r6 r7)] = w6 at hS6 BB BA ⊢
          clear hw6
          clear hS
          refine hK.out _ _ ?_ (fun hHeld => ?_)
          · (try dsimp only)
            (first | assumption | exact (Below.refl _ _).drew)
          clear hK K
          try simp only [Act.put, List.getElem_toArray, List.getElem_cons_zero, List.getElem_cons_succ, List.setIfInBounds_toArray, List.set_cons_zero, List.set_cons_succ]
          refine wpAnyH_ready (rs := [7]) (by kernel_rfl) (by simp) (AllReadyH.cons rfl (fun K hK => ?_) AllReadyH.nil)
          have hS := (by assumption : Below _ wz _)
          refine wanted_plain rfl ?_
          refine wp_store_row (P := Try.prog) 39 (.tmp 6) (.tmp 26) rfl (wD).heap.size #[.int .u64 F, .int .u64 s0, .int .u64 s1, .int .u64 s2, .int .u64 s3, .int .u64 0, .int .u64 0, .int .u64 (St.sum0 F s0 s1 s2 s3), .int .u64 F, .int .u64 s4, .int .u64 s5, .int .u64 s6, .int .u64 s7, .int .u64 1, .int .u64 0, .int .u64 (St.sum1 F s4 s5 s6 s7)] rfl rfl _ _ BB OI.out rfl OB.out ?_
          replace BB := BB.setRow #[.int .u64 F, .int .u64 s0, .int .u64 s1, .int .u64 s2, .int .u64 s3, .int .u64 0, .int .u64 0, .int .u64 (St.sum0 F s0 s1 s2 s3), .int .u64 F, .int .u64 s4, .int .u64 s5, .int .u64 s6, .int .u64 s7, .int .u64 1, .int .u64 0, .int .u64 (St.sum1 F s4 s5 s6 s7)]
          replace BA := BA.setRow_other #[.int .u64 F, .int .u64 s0, .int .u64 s1, .int .u64 s2, .int .u64 s3, .int .u64 0, .int .u64 0, .int .u64 (St.sum0 F s0 s1 s2 s3), .int .u64 F, .int .u64 s4, .int .u64 s5, .int .u64 s6, .int .u64 s7, .int .u64 1, .int .u64 0, .int .u64 (St.sum1 F s4 s5 s6 s7)] neBBBA.symm
          have hS7 := below_setRow hS geBB #[.int .u64 F, .int .u64 s0, .int .u64 s1, .int .u64 s2, .int .u64 s3, .int .u64 0, .int .u64 0, .int .u64 (St.sum0 F s0 s1 s2 s3), .int .u64 F, .int .u64 s4, .int .u64 s5, .int .u64 s6, .int .u64 s7, .int .u64 1, .int .u64 0, .int .u64 (St.sum1 F s4 s5 s6 s7)]
          generalize hw7 : World.setRow (w6) (wD).heap.size #[.int .u64 F, .int .u64 s0, .int .u64 s1, .int .u64 s2, .int .u64 s3, .int .u64 0, .int .u64 0, .int .u64 (St.sum0 F s0 s1 s2 s3), .int .u64 F, .int .u64 s4, .int .u64 s5, .int .u64 s6, .int .u64 s7, .int .u64 1, .int .u64 0, .int .u64 (St.sum1 F s4 s5 s6 s7)] = w7 at hS7 BB BA ⊢
          clear hw7
          clear hS
          refine hK.out _ _ ?_ (fun hHeld => ?_)
          · (try dsimp only)
            (first | assumption | exact (Below.refl _ _).drew)
          clear hK K
          try simp only [Act.put, List.getElem_toArray, List.getElem_cons_zero, List.getElem_cons_succ, List.setIfInBounds_toArray, List.set_cons_zero, List.set_cons_succ]
          refine wpAnyH_done (by kernel_rfl) ?_ _
          have hSF := (by assumption : Below _ wz _)
          go_wp2_with fail
          go_meet
          case rel => first | exact ⟨_, _, rfl, rfl, BA, BB, neBABB, hSF⟩ | exact ⟨_, _, rfl, rfl, BA, BB, neBBBA.symm, hSF⟩
        · have hS := (by assumption : Below _ wz _)
          (try go_simp)
          have BA := Blk.new (w1) #[.int .u64 0, .int .u64 0, .int .u64 0, .int .u64 0, .int .u64 0, .int .u64 0, .int .u64 0, .int .u64 0, .int .u64 0, .int .u64 0, .int .u64 0, .int .u64 0, .int .u64 0, .int .u64 0, .int .u64 0, .int .u64 0] 39
          have hb4 : Below (w1).heap.size (w1) ((w1).alloc (.cells #[.int .u64 0, .int .u64 0, .int .u64 0, .int .u64 0, .int .u64 0, .int .u64 0, .int .u64 0, .int .u64 0, .int .u64 0, .int .u64 0, .int .u64 0, .int .u64 0, .int .u64 0, .int .u64 0, .int .u64 0, .int .u64 0] 39)) := (Below.refl _ _).alloc (Nat.le_refl _) _
          have geBA : wz.heap.size ≤ (w1).heap.size := hS.size
          have neBBBA : (wD).heap.size ≠ (w1).heap.size := Nat.ne_of_lt BB.lt
          generalize hw4 : (w1).alloc (.cells #[.int .u64 0, .int .u64 0, .int .u64 0, .int .u64 0, .int .u64 0, .int .u64 0, .int .u64 0, .int .u64 0, .int .u64 0, .int .u64 0, .int .u64 0, .int .u64 0, .int .u64 0, .int .u64 0, .int .u64 0, .int .u64 0] 39) = w4 at BA hb4 ⊢
          clear hw4
          have hS4 := hS.trans (hb4.mono hS.size)
          replace BB := BB.below hb4 BB.lt
          clear hS
          refine hK.out _ _ ?_ (fun hHeld => ?_)
          · (try dsimp only)
            (first | assumption | exact (Below.refl _ _).drew)
          clear hK K
          try simp only [Act.put, List.getElem_toArray, List.getElem_cons_zero, List.getElem_cons_succ, List.setIfInBounds_toArray, List.set_cons_zero, List.set_cons_succ]
          refine wpAnyH_ready (rs := [3]) (by kernel_rfl) (by simp) (AllReadyH.cons rfl (fun K hK => ?_) AllReadyH.nil)
          have hS := (by assumption : Below _ wz _)
          (try go_simp)
          refine (slEnc_yes F s0 s1 s2 s3 s4 s5 s6 s7 _ HF.out hF0 hs0 hs1 hs2 hs3 hs4 hs5 hs6 hs7).mono ?_
          rintro e w3 ⟨rfl, hb3⟩
          have hS3 := hS.trans (hb3.mono hS.size)
          replace BB := BB.below hb3 BB.lt
          replace BA := BA.below hb3 BA.lt
          clear hS
          refine hK.out _ _ ?_ (fun hHeld => ?_)
          · (try dsimp only)
            (first | assumption | exact (Below.refl _ _).drew)
          clear hK K
          try simp only [Act.put, List.getElem_toArray, List.getElem_cons_zero, List.getElem_cons_succ, List.setIfInBounds_toArray, List.set_cons_zero, List.set_cons_succ]
          refine wpAnyH_ready (rs := [6]) (by kernel_rfl) (by simp) (AllReadyH.cons rfl (fun K hK => ?_) AllReadyH.nil)
          have hS := (by assumption : Below _ wz _)
          refine wanted_plain rfl ?_
          refine wp_store_row (P := Try.prog) 39 (.tmp 5) (.tmp 24) rfl (w1).heap.size #[.int .u64 E, .int .u64 r0, .int .u64 r1, .int .u64 r2, .int .u64 r3, .int .u64 0, .int .u64 0, .int .u64 (St.sum0 E r0 r1 r2 r3), .int .u64 E, .int .u64 r4, .int .u64 r5, .int .u64 r6, .int .u64 r7, .int .u64 1, .int .u64 0, .int .u64 (St.sum1 E r4 r5 r6 r7)] rfl rfl _ _ BA OI.out rfl OA.out ?_
          replace BA := BA.setRow #[.int .u64 E, .int .u64 r0, .int .u64 r1, .int .u64 r2, .int .u64 r3, .int .u64 0, .int .u64 0, .int .u64 (St.sum0 E r0 r1 r2 r3), .int .u64 E, .int .u64 r4, .int .u64 r5, .int .u64 r6, .int .u64 r7, .int .u64 1, .int .u64 0, .int .u64 (St.sum1 E r4 r5 r6 r7)]
          replace BB := BB.setRow_other #[.int .u64 E, .int .u64 r0, .int .u64 r1, .int .u64 r2, .int .u64 r3, .int .u64 0, .int .u64 0, .int .u64 (St.sum0 E r0 r1 r2 r3), .int .u64 E, .int .u64 r4, .int .u64 r5, .int .u64 r6, .int .u64 r7, .int .u64 1, .int .u64 0, .int .u64 (St.sum1 E r4 r5 r6 r7)] neBBBA
          have hS6 := below_setRow hS geBA #[.int .u64 E, .int .u64 r0, .int .u64 r1, .int .u64 r2, .int .u64 r3, .int .u64 0, .int .u64 0, .int .u64 (St.sum0 E r0 r1 r2 r3), .int .u64 E, .int .u64 r4, .int .u64 r5, .int .u64 r6, .int .u64 r7, .int .u64 1, .int .u64 0, .int .u64 (St.sum1 E r4 r5 r6 r7)]
          generalize hw6 : World.setRow (w3) (w1).heap.size #[.int .u64 E, .int .u64 r0, .int .u64 r1, .int .u64 r2, .int .u64 r3, .int .u64 0, .int .u64 0, .int .u64 (St.sum0 E r0 r1 r2 r3), .int .u64 E, .int .u64 r4, .int .u64 r5, .int .u64 r6, .int .u64 r7, .int .u64 1, .int .u64 0, .int .u64 (St.sum1 E r4 r5 r6 r7)] = w6 at hS6 BB BA ⊢
          clear hw6
          clear hS
          refine hK.out _ _ ?_ (fun hHeld => ?_)
          · (try dsimp only)
            (first | assumption | exact (Below.refl _ _).drew)
          clear hK K
          try simp only [Act.put, List.getElem_toArray, List.getElem_cons_zero, List.getElem_cons_succ, List.setIfInBounds_toArray, List.set_cons_zero, List.set_cons_succ]
          refine wpAnyH_ready (rs := [7]) (by kernel_rfl) (by simp) (AllReadyH.cons rfl (fun K hK => ?_) AllReadyH.nil)
          have hS := (by assumption : Below _ wz _)
          refine wanted_plain rfl ?_
          refine wp_store_row (P := Try.prog) 39 (.tmp 6) (.tmp 26) rfl (wD).heap.size #[.int .u64 F, .int .u64 s0, .int .u64 s1, .int .u64 s2, .int .u64 s3, .int .u64 0, .int .u64 0, .int .u64 (St.sum0 F s0 s1 s2 s3), .int .u64 F, .int .u64 s4, .int .u64 s5, .int .u64 s6, .int .u64 s7, .int .u64 1, .int .u64 0, .int .u64 (St.sum1 F s4 s5 s6 s7)] rfl rfl _ _ BB OI.out rfl OB.out ?_
          replace BB := BB.setRow #[.int .u64 F, .int .u64 s0, .int .u64 s1, .int .u64 s2, .int .u64 s3, .int .u64 0, .int .u64 0, .int .u64 (St.sum0 F s0 s1 s2 s3), .int .u64 F, .int .u64 s4, .int .u64 s5, .int .u64 s6, .int .u64 s7, .int .u64 1, .int .u64 0, .int .u64 (St.sum1 F s4 s5 s6 s7)]
          replace BA := BA.setRow_other #[.int .u64 F, .int .u64 s0, .int .u64 s1, .int .u64 s2, .int .u64 s3, .int .u64 0, .int .u64 0, .int .u64 (St.sum0 F s0 s1 s2 s3), .int .u64 F, .int .u64 s4, .int .u64 s5, .int .u64 s6, .int .u64 s7, .int .u64 1, .int .u64 0, .int .u64 (St.sum1 F s4 s5 s6 s7)] neBBBA.symm
          have hS7 := below_setRow hS geBB #[.int .u64 F, .int .u64 s0, .int .u64 s1, .int .u64 s2, .int .u64 s3, .int .u64 0, .int .u64 0, .int .u64 (St.sum0 F s0 s1 s2 s3), .int .u64 F, .int .u64 s4, .int .u64 s5, .int .u64 s6, .int .u64 s7, .int .u64 1, .int .u64 0, .int .u64 (St.sum1 F s4 s5 s6 s7)]
          generalize hw7 : World.setRow (w6) (wD).heap.size #[.int .u64 F, .int .u64 s0, .int .u64 s1, .int .u64 s2, .int .u64 s3, .int .u64 0, .int .u64 0, .int .u64 (St.sum0 F s0 s1 s2 s3), .int .u64 F, .int .u64 s4, .int .u64 s5, .int .u64 s6, .int .u64 s7, .int .u64 1, .int .u64 0, .int .u64 (St.sum1 F s4 s5 s6 s7)] = w7 at hS7 BB BA ⊢
          clear hw7
          clear hS
          refine hK.out _ _ ?_ (fun hHeld => ?_)
          · (try dsimp only)
            (first | assumption | exact (Below.refl _ _).drew)
          clear hK K
          try simp only [Act.put, List.getElem_toArray, List.getElem_cons_zero, List.getElem_cons_succ, List.setIfInBounds_toArray, List.set_cons_zero, List.set_cons_succ]
          refine wpAnyH_done (by kernel_rfl) ?_ _
          have hSF := (by assumption : Below _ wz _)
          go_wp2_with fail
          go_meet
          case rel => first | exact ⟨_, _, rfl, rfl, BA, BB, neBABB, hSF⟩ | exact ⟨_, _, rfl, rfl, BA, BB, neBBBA.symm, hSF⟩
      · have hS := (by assumption : Below _ wz _)
        (try go_simp)
        have BA := Blk.new (w5) #[.int .u64 0, .int .u64 0, .int .u64 0, .int .u64 0, .int .u64 0, .int .u64 0, .int .u64 0, .int .u64 0, .int .u64 0, .int .u64 0, .int .u64 0, .int .u64 0, .int .u64 0, .int .u64 0, .int .u64 0, .int .u64 0] 39
        have hb4 : Below (w5).heap.size (w5) ((w5).alloc (.cells #[.int .u64 0, .int .u64 0, .int .u64 0, .int .u64 0, .int .u64 0, .int .u64 0, .int .u64 0, .int .u64 0, .int .u64 0, .int .u64 0, .int .u64 0, .int .u64 0, .int .u64 0, .int .u64 0, .int .u64 0, .int .u64 0] 39)) := (Below.refl _ _).alloc (Nat.le_refl _) _
        have geBA : wz.heap.size ≤ (w5).heap.size := hS.size
        have neBBBA : (wD).heap.size ≠ (w5).heap.size := Nat.ne_of_lt BB.lt
        generalize hw4 : (w5).alloc (.cells #[.int .u64 0, .int .u64 0, .int .u64 0, .int .u64 0, .int .u64 0, .int .u64 0, .int .u64 0, .int .u64 0, .int .u64 0, .int .u64 0, .int .u64 0, .int .u64 0, .int .u64 0, .int .u64 0, .int .u64 0, .int .u64 0] 39) = w4 at BA hb4 ⊢
        clear hw4
        have hS4 := hS.trans (hb4.mono hS.size)
        replace BB := BB.below hb4 BB.lt
        clear hS
        refine hK.out _ _ ?_ (fun hHeld => ?_)
        · (try dsimp only)
          (first | assumption | exact (Below.refl _ _).drew)
        clear hK K
        try simp only [Act.put, List.getElem_toArray, List.getElem_cons_zero, List.getElem_cons_succ, List.setIfInBounds_toArray, List.set_cons_zero, List.set_cons_succ]
        refine wpAnyH_ready (rs := [1]) (by kernel_rfl) (by simp) (AllReadyH.cons rfl (fun K hK => ?_) AllReadyH.nil)
        have hS := (by assumption : Below _ wz _)
        (try go_simp)
        refine (slEnc_yes E r0 r1 r2 r3 r4 r5 r6 r7 _ HE.out hE0 hr0 hr1 hr2 hr3 hr4 hr5 hr6 hr7).mono ?_
        rintro e w1 ⟨rfl, hb1⟩
        have hS1 := hS.trans (hb1.mono hS.size)
        replace BB := BB.below hb1 BB.lt
        replace BA := BA.below hb1 BA.lt
        clear hS
        refine hK.out _ _ ?_ (fun hHeld => ?_)
        · (try dsimp only)
          (first | assumption | exact (Below.refl _ _).drew)
        clear hK K
        try simp only [Act.put, List.getElem_toArray, List.getElem_cons_zero, List.getElem_cons_succ, List.setIfInBounds_toArray, List.set_cons_zero, List.set_cons_succ]
        refine wpAnyH_ready (rs := [3]) (by kernel_rfl) (by simp) (AllReadyH.cons rfl (fun K hK => ?_) AllReadyH.nil)
        have hS := (by assumption : Below _ wz _)
        (try go_simp)
        refine (slEnc_yes F s0 s1 s2 s3 s4 s5 s6 s7 _ HF.out hF0 hs0 hs1 hs2 hs3 hs4 hs5 hs6 hs7).mono ?_
        rintro e w3 ⟨rfl, hb3⟩
        have hS3 := hS.trans (hb3.mono hS.size)
        replace BB := BB.below hb3 BB.lt
        replace BA := BA.below hb3 BA.lt
        clear hS
        refine hK.out _ _ ?_ (fun hHeld => ?_)
        · (try dsimp only)
          (first | assumption | exact (Below.refl _ _).drew)
        clear hK K
        try simp only [Act.put, List.getElem_toArray, List.getElem_cons_zero, List.getElem_cons_succ, List.setIfInBounds_toArray, List.set_cons_zero, List.set_cons_succ]
        refine wpAnyH_ready (rs := [6]) (by kernel_rfl) (by simp) (AllReadyH.cons rfl (fun K hK => ?_) AllReadyH.nil)
        have hS := (by assumption : Below _ wz _)
        refine wanted_plain rfl ?_
        refine wp_store_row (P := Try.prog) 39 (.tmp 5) (.tmp 24) rfl (w5).heap.size #[.int .u64 E, .int .u64 r0, .int .u64 r1, .int .u64 r2, .int .u64 r3, .int .u64 0, .int .u64 0, .int .u64 (St.sum0 E r0 r1 r2 r3), .int .u64 E, .int .u64 r4, .int .u64 r5, .int .u64 r6, .int .u64 r7, .int .u64 1, .int .u64 0, .int .u64 (St.sum1 E r4 r5 r6 r7)] rfl rfl _ _ BA OI.out rfl OA.out ?_
        replace BA := BA.setRow #[.int .u64 E, .int .u64 r0, .int .u64 r1, .int .u64 r2, .int .u64 r3, .int .u64 0, .int .u64 0, .int .u64 (St.sum0 E r0 r1 r2 r3), .int .u64 E, .int .u64 r4, .int .u64 r5, .int .u64 r6, .int .u64 r7, .int .u64 1, .int .u64 0, .int .u64 (St.sum1 E r4 r5 r6 r7)]
        replace BB := BB.setRow_other #[.int .u64 E, .int .u64 r0, .int .u64 r1, .int .u64 r2, .int .u64 r3, .int .u64 0, .int .u64 0, .int .u64 (St.sum0 E r0 r1 r2 r3), .int .u64 E, .int .u64 r4, .int .u64 r5, .int .u64 r6, .int .u64 r7, .int .u64 1, .int .u64 0, .int .u64 (St.sum1 E r4 r5 r6 r7)] neBBBA
        have hS6 := below_setRow hS geBA #[.int .u64 E, .int .u64 r0, .int .u64 r1, .int .u64 r2, .int .u64 r3, .int .u64 0, .int .u64 0, .int .u64 (St.sum0 E r0 r1 r2 r3), .int .u64 E, .int .u64 r4, .int .u64 r5, .int .u64 r6, .int .u64 r7, .int .u64 1, .int .u64 0, .int .u64 (St.sum1 E r4 r5 r6 r7)]
        generalize hw6 : World.setRow (w3) (w5).heap.size #[.int .u64 E, .int .u64 r0, .int .u64 r1, .int .u64 r2, .int .u64 r3, .int .u64 0, .int .u64 0, .int .u64 (St.sum0 E r0 r1 r2 r3), .int .u64 E, .int .u64 r4, .int .u64 r5, .int .u64 r6, .int .u64 r7, .int .u64 1, .int .u64 0, .int .u64 (St.sum1 E r4 r5 r6 r7)] = w6 at hS6 BB BA ⊢
        clear hw6
        clear hS
        refine hK.out _ _ ?_ (fun hHeld => ?_)
        · (try dsimp only)
          (first | assumption | exact (Below.refl _ _).drew)
        clear hK K
        try simp only [Act.put, List.getElem_toArray, List.getElem_cons_zero, List.getElem_cons_succ, List.setIfInBounds_toArray, List.set_cons_zero, List.set_cons_succ]
        refine wpAnyH_ready (rs := [7]) (by kernel_rfl) (by simp) (AllReadyH.cons rfl (fun K hK => ?_) AllReadyH.nil)
        have hS := (by assumption : Below _ wz _)
        refine wanted_plain rfl ?_
        refine wp_store_row (P := Try.prog) 39 (.tmp 6) (.tmp 26) rfl (wD).heap.size #[.int .u64 F, .int .u64 s0, .int .u64 s1, .int .u64 s2, .int .u64 s3, .int .u64 0, .int .u64 0, .int .u64 (St.sum0 F s0 s1 s2 s3), .int .u64 F, .int .u64 s4, .int .u64 s5, .int .u64 s6, .int .u64 s7, .int .u64 1, .int .u64 0, .int .u64 (St.sum1 F s4 s5 s6 s7)] rfl rfl _ _ BB OI.out rfl OB.out ?_
        replace BB := BB.setRow #[.int .u64 F, .int .u64 s0, .int .u64 s1, .int .u64 s2, .int .u64 s3, .int .u64 0, .int .u64 0, .int .u64 (St.sum0 F s0 s1 s2 s3), .int .u64 F, .int .u64 s4, .int .u64 s5, .int .u64 s6, .int .u64 s7, .int .u64 1, .int .u64 0, .int .u64 (St.sum1 F s4 s5 s6 s7)]
        replace BA := BA.setRow_other #[.int .u64 F, .int .u64 s0, .int .u64 s1, .int .u64 s2, .int .u64 s3, .int .u64 0, .int .u64 0, .int .u64 (St.sum0 F s0 s1 s2 s3), .int .u64 F, .int .u64 s4, .int .u64 s5, .int .u64 s6, .int .u64 s7, .int .u64 1, .int .u64 0, .int .u64 (St.sum1 F s4 s5 s6 s7)] neBBBA.symm
        have hS7 := below_setRow hS geBB #[.int .u64 F, .int .u64 s0, .int .u64 s1, .int .u64 s2, .int .u64 s3, .int .u64 0, .int .u64 0, .int .u64 (St.sum0 F s0 s1 s2 s3), .int .u64 F, .int .u64 s4, .int .u64 s5, .int .u64 s6, .int .u64 s7, .int .u64 1, .int .u64 0, .int .u64 (St.sum1 F s4 s5 s6 s7)]
        generalize hw7 : World.setRow (w6) (wD).heap.size #[.int .u64 F, .int .u64 s0, .int .u64 s1, .int .u64 s2, .int .u64 s3, .int .u64 0, .int .u64 0, .int .u64 (St.sum0 F s0 s1 s2 s3), .int .u64 F, .int .u64 s4, .int .u64 s5, .int .u64 s6, .int .u64 s7, .int .u64 1, .int .u64 0, .int .u64 (St.sum1 F s4 s5 s6 s7)] = w7 at hS7 BB BA ⊢
        clear hw7
        clear hS
        refine hK.out _ _ ?_ (fun hHeld => ?_)
        · (try dsimp only)
          (first | assumption | exact (Below.refl _ _).drew)
        clear hK K
        try simp only [Act.put, List.getElem_toArray, List.getElem_cons_zero, List.getElem_cons_succ, List.setIfInBounds_toArray, List.set_cons_zero, List.set_cons_succ]
        refine wpAnyH_done (by kernel_rfl) ?_ _
        have hSF := (by assumption : Below _ wz _)
        go_wp2_with fail
        go_meet
        case rel => first | exact ⟨_, _, rfl, rfl, BA, BB, neBABB, hSF⟩ | exact ⟨_, _, rfl, rfl, BA, BB, neBBBA.symm, hSF⟩
  case rest =>
    obtain ⟨p, q, rfl, rfl, BA, BB, hpq, hbc⟩ := hcut
    have XS4 := XS3.below hbc XS3.lt
    have XT4 := XT3.below hbc XT3.lt
    have hB4 := hB3.trans (hbc.mono hB3.size)
    clear hbc h3 XS3 XT3 hB3
    go_wp2_with (first
      | (refine wpList_load_row (P := Try.prog) rfl 39 (.tmp 5) rfl p rfl _ _ (0, 0) _ BA Try.underlying39 rfl (by kernel_rfl) ?_))
    have BM5 := Blk.new wc #[.int .u64 E, .int .u64 r0, .int .u64 r1, .int .u64 r2, .int .u64 r3, .int .u64 0, .int .u64 0, .int .u64 (St.sum0 E r0 r1 r2 r3), .int .u64 E, .int .u64 r4, .int .u64 r5, .int .u64 r6, .int .u64 r7, .int .u64 1, .int .u64 0, .int .u64 (St.sum1 E r4 r5 r6 r7)] 39
    have BA5 := BA.alloc (.cells #[.int .u64 E, .int .u64 r0, .int .u64 r1, .int .u64 r2, .int .u64 r3, .int .u64 0, .int .u64 0, .int .u64 (St.sum0 E r0 r1 r2 r3), .int .u64 E, .int .u64 r4, .int .u64 r5, .int .u64 r6, .int .u64 r7, .int .u64 1, .int .u64 0, .int .u64 (St.sum1 E r4 r5 r6 r7)] 39)
    have BB5 := BB.alloc (.cells #[.int .u64 E, .int .u64 r0, .int .u64 r1, .int .u64 r2, .int .u64 r3, .int .u64 0, .int .u64 0, .int .u64 (St.sum0 E r0 r1 r2 r3), .int .u64 E, .int .u64 r4, .int .u64 r5, .int .u64 r6, .int .u64 r7, .int .u64 1, .int .u64 0, .int .u64 (St.sum1 E r4 r5 r6 r7)] 39)
    have XS5 := XS4.alloc (.cells #[.int .u64 E, .int .u64 r0, .int .u64 r1, .int .u64 r2, .int .u64 r3, .int .u64 0, .int .u64 0, .int .u64 (St.sum0 E r0 r1 r2 r3), .int .u64 E, .int .u64 r4, .int .u64 r5, .int .u64 r6, .int .u64 r7, .int .u64 1, .int .u64 0, .int .u64 (St.sum1 E r4 r5 r6 r7)] 39)
    have XT5 := XT4.alloc (.cells #[.int .u64 E, .int .u64 r0, .int .u64 r1, .int .u64 r2, .int .u64 r3, .int .u64 0, .int .u64 0, .int .u64 (St.sum0 E r0 r1 r2 r3), .int .u64 E, .int .u64 r4, .int .u64 r5, .int .u64 r6, .int .u64 r7, .int .u64 1, .int .u64 0, .int .u64 (St.sum1 E r4 r5 r6 r7)] 39)
    have hB5 := hB4.alloc hB4.size (.cells #[.int .u64 E, .int .u64 r0, .int .u64 r1, .int .u64 r2, .int .u64 r3, .int .u64 0, .int .u64 0, .int .u64 (St.sum0 E r0 r1 r2 r3), .int .u64 E, .int .u64 r4, .int .u64 r5, .int .u64 r6, .int .u64 r7, .int .u64 1, .int .u64 0, .int .u64 (St.sum1 E r4 r5 r6 r7)] 39)
    have hp : p ≠ wc.heap.size := Nat.ne_of_lt BA.lt
    have hq : q ≠ wc.heap.size := Nat.ne_of_lt BB.lt
    have hs : w.heap.size ≠ wc.heap.size := Nat.ne_of_lt XS4.lt
    have ht : w.heap.size + 1 ≠ wc.heap.size := Nat.ne_of_lt XT4.lt
    have hge : w.heap.size ≤ wc.heap.size := hB4.size
    generalize hWm : wc.alloc (.cells #[.int .u64 E, .int .u64 r0, .int .u64 r1, .int .u64 r2, .int .u64 r3, .int .u64 0, .int .u64 0, .int .u64 (St.sum0 E r0 r1 r2 r3), .int .u64 E, .int .u64 r4, .int .u64 r5, .int .u64 r6, .int .u64 r7, .int .u64 1, .int .u64 0, .int .u64 (St.sum1 E r4 r5 r6 r7)] 39) = Wm at *
    clear hWm BA BB XS4 XT4 hB4
    have c8 : Wm.cell? ⟨q, 8, none⟩ = some (.int .u64 F) := BB5.cell 8 _ rfl
    have c9 : Wm.cell? ⟨q, 9, none⟩ = some (.int .u64 s4) := BB5.cell 9 _ rfl
    have c10 : Wm.cell? ⟨q, 10, none⟩ = some (.int .u64 s5) := BB5.cell 10 _ rfl
    have c11 : Wm.cell? ⟨q, 11, none⟩ = some (.int .u64 s6) := BB5.cell 11 _ rfl
    have c12 : Wm.cell? ⟨q, 12, none⟩ = some (.int .u64 s7) := BB5.cell 12 _ rfl
    have c13 : Wm.cell? ⟨q, 13, none⟩ = some (.int .u64 1) := BB5.cell 13 _ rfl
    have c14 : Wm.cell? ⟨q, 14, none⟩ = some (.int .u64 0) := BB5.cell 14 _ rfl
    have c15 : Wm.cell? ⟨q, 15, none⟩ = some (.int .u64 (St.sum1 F s4 s5 s6 s7)) := BB5.cell 15 _ rfl
    have m8 : Wm.cell? ⟨wc.heap.size, 8, none⟩ = some (.int .u64 E) := BM5.cell 8 _ rfl
    have m9 : Wm.cell? ⟨wc.heap.size, 9, none⟩ = some (.int .u64 r4) := BM5.cell 9 _ rfl
    have m10 : Wm.cell? ⟨wc.heap.size, 10, none⟩ = some (.int .u64 r5) := BM5.cell 10 _ rfl
    have m11 : Wm.cell? ⟨wc.heap.size, 11, none⟩ = some (.int .u64 r6) := BM5.cell 11 _ rfl
    have m12 : Wm.cell? ⟨wc.heap.size, 12, none⟩ = some (.int .u64 r7) := BM5.cell 12 _ rfl
    have m13 : Wm.cell? ⟨wc.heap.size, 13, none⟩ = some (.int .u64 1) := BM5.cell 13 _ rfl
    have m14 : Wm.cell? ⟨wc.heap.size, 14, none⟩ = some (.int .u64 0) := BM5.cell 14 _ rfl
    have m15 : Wm.cell? ⟨wc.heap.size, 15, none⟩ = some (.int .u64 (St.sum1 E r4 r5 r6 r7)) := BM5.cell 15 _ rfl
    have g8 : Wm.frozen? ⟨wc.heap.size, 8, none⟩ = false := BM5.frozen 8
    have g9 : Wm.frozen? ⟨wc.heap.size, 9, none⟩ = false := BM5.frozen 9
    have g10 : Wm.frozen? ⟨wc.heap.size, 10, none⟩ = false := BM5.frozen 10
    have g11 : Wm.frozen? ⟨wc.heap.size, 11, none⟩ = false := BM5.frozen 11
    have g12 : Wm.frozen? ⟨wc.heap.size, 12, none⟩ = false := BM5.frozen 12
    have g13 : Wm.frozen? ⟨wc.heap.size, 13, none⟩ = false := BM5.frozen 13
    have g14 : Wm.frozen? ⟨wc.heap.size, 14, none⟩ = false := BM5.frozen 14
    have g15 : Wm.frozen? ⟨wc.heap.size, 15, none⟩ = false := BM5.frozen 15
    have BM8_1 : Blk (World.setCell Wm ⟨wc.heap.size, 8, none⟩ (.int .u64 F)) wc.heap.size #[.int .u64 E, .int .u64 r0, .int .u64 r1, .int .u64 r2, .int .u64 r3, .int .u64 0, .int .u64 0, .int .u64 (St.sum0 E r0 r1 r2 r3), .int .u64 F, .int .u64 r4, .int .u64 r5, .int .u64 r6, .int .u64 r7, .int .u64 1, .int .u64 0, .int .u64 (St.sum1 E r4 r5 r6 r7)] 39 := BM5.set 8 (.int .u64 F)
    have BM8_2 : Blk (World.setCell (World.setCell Wm ⟨wc.heap.size, 8, none⟩ (.int .u64 F)) ⟨wc.heap.size, 9, none⟩ (.int .u64 s4)) wc.heap.size #[.int .u64 E, .int .u64 r0, .int .u64 r1, .int .u64 r2, .int .u64 r3, .int .u64 0, .int .u64 0, .int .u64 (St.sum0 E r0 r1 r2 r3), .int .u64 F, .int .u64 s4, .int .u64 r5, .int .u64 r6, .int .u64 r7, .int .u64 1, .int .u64 0, .int .u64 (St.sum1 E r4 r5 r6 r7)] 39 := BM8_1.set 9 (.int .u64 s4)
    have BM8_3 : Blk (World.setCell (World.setCell (World.setCell Wm ⟨wc.heap.size, 8, none⟩ (.int .u64 F)) ⟨wc.heap.size, 9, none⟩ (.int .u64 s4)) ⟨wc.heap.size, 10, none⟩ (.int .u64 s5)) wc.heap.size #[.int .u64 E, .int .u64 r0, .int .u64 r1, .int .u64 r2, .int .u64 r3, .int .u64 0, .int .u64 0, .int .u64 (St.sum0 E r0 r1 r2 r3), .int .u64 F, .int .u64 s4, .int .u64 s5, .int .u64 r6, .int .u64 r7, .int .u64 1, .int .u64 0, .int .u64 (St.sum1 E r4 r5 r6 r7)] 39 := BM8_2.set 10 (.int .u64 s5)
    have BM8_4 : Blk (World.setCell (World.setCell (World.setCell (World.setCell Wm ⟨wc.heap.size, 8, none⟩ (.int .u64 F)) ⟨wc.heap.size, 9, none⟩ (.int .u64 s4)) ⟨wc.heap.size, 10, none⟩ (.int .u64 s5)) ⟨wc.heap.size, 11, none⟩ (.int .u64 s6)) wc.heap.size #[.int .u64 E, .int .u64 r0, .int .u64 r1, .int .u64 r2, .int .u64 r3, .int .u64 0, .int .u64 0, .int .u64 (St.sum0 E r0 r1 r2 r3), .int .u64 F, .int .u64 s4, .int .u64 s5, .int .u64 s6, .int .u64 r7, .int .u64 1, .int .u64 0, .int .u64 (St.sum1 E r4 r5 r6 r7)] 39 := BM8_3.set 11 (.int .u64 s6)
    have BM8_5 : Blk (World.setCell (World.setCell (World.setCell (World.setCell (World.setCell Wm ⟨wc.heap.size, 8, none⟩ (.int .u64 F)) ⟨wc.heap.size, 9, none⟩ (.int .u64 s4)) ⟨wc.heap.size, 10, none⟩ (.int .u64 s5)) ⟨wc.heap.size, 11, none⟩ (.int .u64 s6)) ⟨wc.heap.size, 12, none⟩ (.int .u64 s7)) wc.heap.size #[.int .u64 E, .int .u64 r0, .int .u64 r1, .int .u64 r2, .int .u64 r3, .int .u64 0, .int .u64 0, .int .u64 (St.sum0 E r0 r1 r2 r3), .int .u64 F, .int .u64 s4, .int .u64 s5, .int .u64 s6, .int .u64 s7, .int .u64 1, .int .u64 0, .int .u64 (St.sum1 E r4 r5 r6 r7)] 39 := BM8_4.set 12 (.int .u64 s7)
    have BM8_6 : Blk (World.setCell (World.setCell (World.setCell (World.setCell (World.setCell (World.setCell Wm ⟨wc.heap.size, 8, none⟩ (.int .u64 F)) ⟨wc.heap.size, 9, none⟩ (.int .u64 s4)) ⟨wc.heap.size, 10, none⟩ (.int .u64 s5)) ⟨wc.heap.size, 11, none⟩ (.int .u64 s6)) ⟨wc.heap.size, 12, none⟩ (.int .u64 s7)) ⟨wc.heap.size, 13, none⟩ (.int .u64 1)) wc.heap.size #[.int .u64 E, .int .u64 r0, .int .u64 r1, .int .u64 r2, .int .u64 r3, .int .u64 0, .int .u64 0, .int .u64 (St.sum0 E r0 r1 r2 r3), .int .u64 F, .int .u64 s4, .int .u64 s5, .int .u64 s6, .int .u64 s7, .int .u64 1, .int .u64 0, .int .u64 (St.sum1 E r4 r5 r6 r7)] 39 := BM8_5.set 13 (.int .u64 1)
    have BM8_7 : Blk (World.setCell (World.setCell (World.setCell (World.setCell (World.setCell (World.setCell (World.setCell Wm ⟨wc.heap.size, 8, none⟩ (.int .u64 F)) ⟨wc.heap.size, 9, none⟩ (.int .u64 s4)) ⟨wc.heap.size, 10, none⟩ (.int .u64 s5)) ⟨wc.heap.size, 11, none⟩ (.int .u64 s6)) ⟨wc.heap.size, 12, none⟩ (.int .u64 s7)) ⟨wc.heap.size, 13, none⟩ (.int .u64 1)) ⟨wc.heap.size, 14, none⟩ (.int .u64 0)) wc.heap.size #[.int .u64 E, .int .u64 r0, .int .u64 r1, .int .u64 r2, .int .u64 r3, .int .u64 0, .int .u64 0, .int .u64 (St.sum0 E r0 r1 r2 r3), .int .u64 F, .int .u64 s4, .int .u64 s5, .int .u64 s6, .int .u64 s7, .int .u64 1, .int .u64 0, .int .u64 (St.sum1 E r4 r5 r6 r7)] 39 := BM8_6.set 14 (.int .u64 0)
    have BM8_8 : Blk (World.setCell (World.setCell (World.setCell (World.setCell (World.setCell (World.setCell (World.setCell (World.setCell Wm ⟨wc.heap.size, 8, none⟩ (.int .u64 F)) ⟨wc.heap.size, 9, none⟩ (.int .u64 s4)) ⟨wc.heap.size, 10, none⟩ (.int .u64 s5)) ⟨wc.heap.size, 11, none⟩ (.int .u64 s6)) ⟨wc.heap.size, 12, none⟩ (.int .u64 s7)) ⟨wc.heap.size, 13, none⟩ (.int .u64 1)) ⟨wc.heap.size, 14, none⟩ (.int .u64 0)) ⟨wc.heap.size, 15, none⟩ (.int .u64 (St.sum1 F s4 s5 s6 s7))) wc.heap.size #[.int .u64 E, .int .u64 r0, .int .u64 r1, .int .u64 r2, .int .u64 r3, .int .u64 0, .int .u64 0, .int .u64 (St.sum0 E r0 r1 r2 r3), .int .u64 F, .int .u64 s4, .int .u64 s5, .int .u64 s6, .int .u64 s7, .int .u64 1, .int .u64 0, .int .u64 (St.sum1 F s4 s5 s6 s7)] 39 := BM8_7.set 15 (.int .u64 (St.sum1 F s4 s5 s6 s7))
    have BM8 := BM8_8
    clear BM8_1 BM8_2 BM8_3 BM8_4 BM8_5 BM8_6 BM8_7 BM8_8
    have BA8 : Blk (World.setCell (World.setCell (World.setCell (World.setCell (World.setCell (World.setCell (World.setCell (World.setCell Wm ⟨wc.heap.size, 8, none⟩ (.int .u64 F)) ⟨wc.heap.size, 9, none⟩ (.int .u64 s4)) ⟨wc.heap.size, 10, none⟩ (.int .u64 s5)) ⟨wc.heap.size, 11, none⟩ (.int .u64 s6)) ⟨wc.heap.size, 12, none⟩ (.int .u64 s7)) ⟨wc.heap.size, 13, none⟩ (.int .u64 1)) ⟨wc.heap.size, 14, none⟩ (.int .u64 0)) ⟨wc.heap.size, 15, none⟩ (.int .u64 (St.sum1 F s4 s5 s6 s7))) p #[.int .u64 E, .int .u64 r0, .int .u64 r1, .int .u64 r2, .int .u64 r3, .int .u64 0, .int .u64 0, .int .u64 (St.sum0 E r0 r1 r2 r3), .int .u64 E, .int .u64 r4, .int .u64 r5, .int .u64 r6, .int .u64 r7, .int .u64 1, .int .u64 0, .int .u64 (St.sum1 E r4 r5 r6 r7)] 39 := ((((((((BA5.other ⟨wc.heap.size, 8, none⟩ (.int .u64 F) hp.symm).other ⟨wc.heap.size, 9, none⟩ (.int .u64 s4) hp.symm).other ⟨wc.heap.size, 10, none⟩ (.int .u64 s5) hp.symm).other ⟨wc.heap.size, 11, none⟩ (.int .u64 s6) hp.symm).other ⟨wc.heap.size, 12, none⟩ (.int .u64 s7) hp.symm).other ⟨wc.heap.size, 13, none⟩ (.int .u64 1) hp.symm).other ⟨wc.heap.size, 14, none⟩ (.int .u64 0) hp.symm).other ⟨wc.heap.size, 15, none⟩ (.int .u64 (St.sum1 F s4 s5 s6 s7)) hp.symm)
    have XS8 : Blk (World.setCell (World.setCell (World.setCell (World.setCell (World.setCell (World.setCell (World.setCell (World.setCell Wm ⟨wc.heap.size, 8, none⟩ (.int .u64 F)) ⟨wc.heap.size, 9, none⟩ (.int .u64 s4)) ⟨wc.heap.size, 10, none⟩ (.int .u64 s5)) ⟨wc.heap.size, 11, none⟩ (.int .u64 s6)) ⟨wc.heap.size, 12, none⟩ (.int .u64 s7)) ⟨wc.heap.size, 13, none⟩ (.int .u64 1)) ⟨wc.heap.size, 14, none⟩ (.int .u64 0)) ⟨wc.heap.size, 15, none⟩ (.int .u64 (St.sum1 F s4 s5 s6 s7))) w.heap.size #[.int .u64 E, .int .i64 r0, .int .i64 r1, .int .i64 r2, .int .i64 r3, .int .i64 r4, .int .i64 r5, .int .i64 r6, .int .i64 r7] 38 := ((((((((XS5.other ⟨wc.heap.size, 8, none⟩ (.int .u64 F) hs.symm).other ⟨wc.heap.size, 9, none⟩ (.int .u64 s4) hs.symm).other ⟨wc.heap.size, 10, none⟩ (.int .u64 s5) hs.symm).other ⟨wc.heap.size, 11, none⟩ (.int .u64 s6) hs.symm).other ⟨wc.heap.size, 12, none⟩ (.int .u64 s7) hs.symm).other ⟨wc.heap.size, 13, none⟩ (.int .u64 1) hs.symm).other ⟨wc.heap.size, 14, none⟩ (.int .u64 0) hs.symm).other ⟨wc.heap.size, 15, none⟩ (.int .u64 (St.sum1 F s4 s5 s6 s7)) hs.symm)
    have XT8 : Blk (World.setCell (World.setCell (World.setCell (World.setCell (World.setCell (World.setCell (World.setCell (World.setCell Wm ⟨wc.heap.size, 8, none⟩ (.int .u64 F)) ⟨wc.heap.size, 9, none⟩ (.int .u64 s4)) ⟨wc.heap.size, 10, none⟩ (.int .u64 s5)) ⟨wc.heap.size, 11, none⟩ (.int .u64 s6)) ⟨wc.heap.size, 12, none⟩ (.int .u64 s7)) ⟨wc.heap.size, 13, none⟩ (.int .u64 1)) ⟨wc.heap.size, 14, none⟩ (.int .u64 0)) ⟨wc.heap.size, 15, none⟩ (.int .u64 (St.sum1 F s4 s5 s6 s7))) (w.heap.size + 1) #[.int .u64 F, .int .i64 s0, .int .i64 s1, .int .i64 s2, .int .i64 s3, .int .i64 s4, .int .i64 s5, .int .i64 s6, .int .i64 s7] 38 := ((((((((XT5.other ⟨wc.heap.size, 8, none⟩ (.int .u64 F) ht.symm).other ⟨wc.heap.size, 9, none⟩ (.int .u64 s4) ht.symm).other ⟨wc.heap.size, 10, none⟩ (.int .u64 s5) ht.symm).other ⟨wc.heap.size, 11, none⟩ (.int .u64 s6) ht.symm).other ⟨wc.heap.size, 12, none⟩ (.int .u64 s7) ht.symm).other ⟨wc.heap.size, 13, none⟩ (.int .u64 1) ht.symm).other ⟨wc.heap.size, 14, none⟩ (.int .u64 0) ht.symm).other ⟨wc.heap.size, 15, none⟩ (.int .u64 (St.sum1 F s4 s5 s6 s7)) ht.symm)
    have hB8 : Below w.heap.size w (World.setCell (World.setCell (World.setCell (World.setCell (World.setCell (World.setCell (World.setCell (World.setCell Wm ⟨wc.heap.size, 8, none⟩ (.int .u64 F)) ⟨wc.heap.size, 9, none⟩ (.int .u64 s4)) ⟨wc.heap.size, 10, none⟩ (.int .u64 s5)) ⟨wc.heap.size, 11, none⟩ (.int .u64 s6)) ⟨wc.heap.size, 12, none⟩ (.int .u64 s7)) ⟨wc.heap.size, 13, none⟩ (.int .u64 1)) ⟨wc.heap.size, 14, none⟩ (.int .u64 0)) ⟨wc.heap.size, 15, none⟩ (.int .u64 (St.sum1 F s4 s5 s6 s7))) := ((((((((hB5.setCell (p := ⟨wc.heap.size, 8, none⟩) hge (.int .u64 F)).setCell (p := ⟨wc.heap.size, 9, none⟩) hge (.int .u64 s4)).setCell (p := ⟨wc.heap.size, 10, none⟩) hge (.int .u64 s5)).setCell (p := ⟨wc.heap.size, 11, none⟩) hge (.int .u64 s6)).setCell (p := ⟨wc.heap.size, 12, none⟩) hge (.int .u64 s7)).setCell (p := ⟨wc.heap.size, 13, none⟩) hge (.int .u64 1)).setCell (p := ⟨wc.heap.size, 14, none⟩) hge (.int .u64 0)).setCell (p := ⟨wc.heap.size, 15, none⟩) hge (.int .u64 (St.sum1 F s4 s5 s6 s7)))
    have BM8 := Lib.hid BM8
    have BA8 := Lib.hid BA8
    have XS8 := Lib.hid XS8
    have XT8 := Lib.hid XT8
    have hB8 := Lib.hid hB8
    clear BB5 BM5 BA5 XS5 XT5 hB5
    refine wp_loop_rounds 9 ?_
    rw [rounds_succ]
    go_wp2_with fail
    rw [rounds_succ]
    go_wp2_with fail
    rw [rounds_succ]
    go_wp2_with fail
    rw [rounds_succ]
    go_wp2_with fail
    rw [rounds_succ]
    go_wp2_with fail
    rw [rounds_succ]
    go_wp2_with fail
    rw [rounds_succ]
    go_wp2_with fail
    rw [rounds_succ]
    go_wp2_with fail
    rw [rounds_succ]
    obtain ⟨D, HD2, hD⟩ : ∃ D, Hid (dC [E, r0, r1, r2, r3, 0, 0, (St.sum0 E r0 r1 r2 r3), F, s4, s5, s6, s7, 1, 0, (St.sum1 F s4 s5 s6 s7)] = D) ∧ ((D = 0 ∧ E = F) ∨ (D = 26 ∧ E ≠ F)) := by
      by_cases h : E = F
      · exact ⟨0, Lib.hid (HDC.out.trans (if_pos h)), .inl ⟨rfl, h⟩⟩
      · exact ⟨26, Lib.hid (HDC.out.trans (if_neg h)), .inr ⟨rfl, h⟩⟩
    replace hD := Lib.hid hD
    go_upto_region 11 with fail
    generalize hW8 : World.setCell _ _ _ = W8 at BA8 BM8 XS8 XT8 hB8 ⊢
    clear hW8
    go_upto_region 13 with (first
      | (refine wpList_load_row (P := Try.prog) rfl 39 (.tmp 5) rfl p rfl _ _ (0, 0) _ BA8.out Try.underlying39 rfl (by kernel_rfl) ?_)
      | (go_at_call 19; (with_reducible refine (slDec_lit E r0 r1 r2 r3 0 0 (St.sum0 E r0 r1 r2 r3) E r4 r5 r6 r7 1 0 (St.sum1 E r4 r5 r6 r7) _ HWA.out).mono ?_); rintro e w4 ⟨rfl, hb4⟩; rw [HV.out, HD1.out]; have BM9 := (BM8.out.below hb4 BM8.out.lt).alloc (.cells #[.int .u64 E, .int .i64 r0, .int .i64 r1, .int .i64 r2, .int .i64 r3, .int .i64 r4, .int .i64 r5, .int .i64 r6, .int .i64 r7] 38); have XS9 := (XS8.out.below hb4 XS8.out.lt).alloc (.cells #[.int .u64 E, .int .i64 r0, .int .i64 r1, .int .i64 r2, .int .i64 r3, .int .i64 r4, .int .i64 r5, .int .i64 r6, .int .i64 r7] 38); have XT9 := (XT8.out.below hb4 XT8.out.lt).alloc (.cells #[.int .u64 E, .int .i64 r0, .int .i64 r1, .int .i64 r2, .int .i64 r3, .int .i64 r4, .int .i64 r5, .int .i64 r6, .int .i64 r7] 38); have hB9 := hB8.out.trans (hb4.mono hB8.out.size); have hB9' := hB9.alloc hB9.size (.cells #[.int .u64 E, .int .i64 r0, .int .i64 r1, .int .i64 r2, .int .i64 r3, .int .i64 r4, .int .i64 r5, .int .i64 r6, .int .i64 r7] 38); have XX9 := Blk.new w4 #[.int .u64 E, .int .i64 r0, .int .i64 r1, .int .i64 r2, .int .i64 r3, .int .i64 r4, .int .i64 r5, .int .i64 r6, .int .i64 r7] 38; clear hb4 hB9)
      | (refine wpList_load_row (P := Try.prog) rfl 39 (.tmp 7) rfl wc.heap.size rfl _ _ (0, 0) _ BM9 Try.underlying39 rfl (by kernel_rfl) ?_)
      | (go_at_call 19; (with_reducible refine (slDec_lit E r0 r1 r2 r3 0 0 (St.sum0 E r0 r1 r2 r3) F s4 s5 s6 s7 1 0 (St.sum1 F s4 s5 s6 s7) _ HWM.out).mono ?_); rintro e w5 ⟨rfl, hb5⟩; rw [HU.out, HD2.out]; have XS10 := (XS9.below hb5 XS9.lt).alloc (.cells #[.int .u64 (dVE [E, r0, r1, r2, r3, 0, 0, (St.sum0 E r0 r1 r2 r3), F, s4, s5, s6, s7, 1, 0, (St.sum1 F s4 s5 s6 s7)]), .int .i64 x0, .int .i64 x1, .int .i64 x2, .int .i64 x3, .int .i64 x4, .int .i64 x5, .int .i64 x6, .int .i64 x7] 38); have XT10 := (XT9.below hb5 XT9.lt).alloc (.cells #[.int .u64 (dVE [E, r0, r1, r2, r3, 0, 0, (St.sum0 E r0 r1 r2 r3), F, s4, s5, s6, s7, 1, 0, (St.sum1 F s4 s5 s6 s7)]), .int .i64 x0, .int .i64 x1, .int .i64 x2, .int .i64 x3, .int .i64 x4, .int .i64 x5, .int .i64 x6, .int .i64 x7] 38); have XX10 := (XX9.below hb5 XX9.lt).alloc (.cells #[.int .u64 (dVE [E, r0, r1, r2, r3, 0, 0, (St.sum0 E r0 r1 r2 r3), F, s4, s5, s6, s7, 1, 0, (St.sum1 F s4 s5 s6 s7)]), .int .i64 x0, .int .i64 x1, .int .i64 x2, .int .i64 x3, .int .i64 x4, .int .i64 x5, .int .i64 x6, .int .i64 x7] 38); have hB10 := hB9'.trans (hb5.mono hB9'.size); have hB10' := hB10.alloc hB10.size (.cells #[.int .u64 (dVE [E, r0, r1, r2, r3, 0, 0, (St.sum0 E r0 r1 r2 r3), F, s4, s5, s6, s7, 1, 0, (St.sum1 F s4 s5 s6 s7)]), .int .i64 x0, .int .i64 x1, .int .i64 x2, .int .i64 x3, .int .i64 x4, .int .i64 x5, .int .i64 x6, .int .i64 x7] 38); clear hb5 hB10 hB9' BM9 XS9 XT9 XX9))
    generalize hZ10 : w5.alloc (.cells #[.int .u64 (dVE [E, r0, r1, r2, r3, 0, 0, (St.sum0 E r0 r1 r2 r3), F, s4, s5, s6, s7, 1, 0, (St.sum1 F s4 s5 s6 s7)]), .int .i64 x0, .int .i64 x1, .int .i64 x2, .int .i64 x3, .int .i64 x4, .int .i64 x5, .int .i64 x6, .int .i64 x7] 38) = Z10 at *
    clear hZ10
    have a0 : Z10.cell? ⟨w.heap.size, 0, none⟩ = some (.int .u64 E) := XS10.cell 0 _ rfl
    have a1 : Z10.cell? ⟨w.heap.size, 1, none⟩ = some (.int .i64 r0) := XS10.cell 1 _ rfl
    have a2 : Z10.cell? ⟨w.heap.size, 2, none⟩ = some (.int .i64 r1) := XS10.cell 2 _ rfl
    have a3 : Z10.cell? ⟨w.heap.size, 3, none⟩ = some (.int .i64 r2) := XS10.cell 3 _ rfl
    have a4 : Z10.cell? ⟨w.heap.size, 4, none⟩ = some (.int .i64 r3) := XS10.cell 4 _ rfl
    have a5 : Z10.cell? ⟨w.heap.size, 5, none⟩ = some (.int .i64 r4) := XS10.cell 5 _ rfl
    have a6 : Z10.cell? ⟨w.heap.size, 6, none⟩ = some (.int .i64 r5) := XS10.cell 6 _ rfl
    have a7 : Z10.cell? ⟨w.heap.size, 7, none⟩ = some (.int .i64 r6) := XS10.cell 7 _ rfl
    have a8 : Z10.cell? ⟨w.heap.size, 8, none⟩ = some (.int .i64 r7) := XS10.cell 8 _ rfl
    have x_0 : Z10.cell? ⟨w4.heap.size, 0, none⟩ = some (.int .u64 E) := XX10.cell 0 _ rfl
    have x_1 : Z10.cell? ⟨w4.heap.size, 1, none⟩ = some (.int .i64 r0) := XX10.cell 1 _ rfl
    have x_2 : Z10.cell? ⟨w4.heap.size, 2, none⟩ = some (.int .i64 r1) := XX10.cell 2 _ rfl
    have x_3 : Z10.cell? ⟨w4.heap.size, 3, none⟩ = some (.int .i64 r2) := XX10.cell 3 _ rfl
    have x_4 : Z10.cell? ⟨w4.heap.size, 4, none⟩ = some (.int .i64 r3) := XX10.cell 4 _ rfl
    have x_5 : Z10.cell? ⟨w4.heap.size, 5, none⟩ = some (.int .i64 r4) := XX10.cell 5 _ rfl
    have x_6 : Z10.cell? ⟨w4.heap.size, 6, none⟩ = some (.int .i64 r5) := XX10.cell 6 _ rfl
    have x_7 : Z10.cell? ⟨w4.heap.size, 7, none⟩ = some (.int .i64 r6) := XX10.cell 7 _ rfl
    have x_8 : Z10.cell? ⟨w4.heap.size, 8, none⟩ = some (.int .i64 r7) := XX10.cell 8 _ rfl
    have t0 : Z10.cell? ⟨w.heap.size + 1, 0, none⟩ = some (.int .u64 F) := XT10.cell 0 _ rfl
    rcases hD.out with ⟨rfl, h⟩ | ⟨rfl, h⟩
    · have eE : (E == F) = true := by simpa using h
      clear h hD HD2 HDC
      go_wp2_with fail
      go_ret
      exact ⟨by first | rfl | exact ret_bool rfl | exact ret_bool (by simp), hB10'⟩
    · have eE : (E == F) = false := by simpa using h
      clear h hD HD2 HDC
      go_wp2_with fail
      go_ret
      exact ⟨by first | rfl | exact ret_bool rfl | exact ret_bool (by simp), hB10'⟩
end Go.Proofs.Ytgcjagffoeoldaa
