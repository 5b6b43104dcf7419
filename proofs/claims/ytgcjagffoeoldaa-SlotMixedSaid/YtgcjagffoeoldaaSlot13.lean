/- A slot that comes in by value; SlotCodes and SlotChooses from what comes in. -/
import Derived.Test.YtgcjagffoeoldaaSlot12
namespace Go.Proofs.Ytgcjagffoeoldaa
open Go.RowKit
set_option linter.unusedVariables false
set_option linter.unusedSimpArgs false
set_option maxHeartbeats 4000000
set_option maxRecDepth 100000
section
variable {H : Type} {enc : TypeId × Value → H} {P : Program} {w : World} {base : Nat} {spare : Nat → Bool} {held : Bool}
open Go.ChangeShapes Go.WideShapes
theorem trod_array_ints {n fuel : Nat} {t e : TypeId} {k : IntKind} {cs : List Value} {x : DataW H × List MemPlace} (ht : P.underlying t = some (.array n e)) (he : P.underlying e = some (.int k)) (hce : P.cellsOf e = 1) (hct : P.cellsOf t = n)
    (hf : DataW.trod enc P w base spare held fuel t cs = some x) :
    ∃ zs : List Int, zs.length = n ∧ cs = zs.map (Value.int k) ∧ ∀ z ∈ zs, (Lit.int k z).wf = true := by
  obtain ⟨xs, m, _, _, hlen, hxl, hg⟩ := DataW.trod_array ht hf
  rw [hct] at hlen
  have key : ∀ i, i < n → ∃ z, cs[i]? = some (.int k z) ∧ (Lit.int k z).wf = true := by
    intro i hi
    have h1 := hg i hi
    rw [hce, Nat.mul_one] at h1
    have hx : xs[i]? = some xs[i] := List.getElem?_eq_getElem (by omega)
    rw [hx] at h1
    obtain ⟨z, hz, _, hw⟩ := DataW.trod_int he h1
    refine ⟨z, ?_, hw⟩
    have h2 := congrArg (fun l => l[0]?) hz
    simpa using h2
  have main : ∀ (l : List Value), (∀ i, i < l.length → ∃ z, l[i]? = some (.int k z) ∧ (Lit.int k z).wf = true) → ∃ zs : List Int, zs.length = l.length ∧ l = zs.map (Value.int k) ∧ ∀ z ∈ zs, (Lit.int k z).wf = true := by
    intro l
    induction l with
    | nil => intro _; exact ⟨[], rfl, rfl, by simp⟩
    | cons c l ih =>
      intro hh
      obtain ⟨z, hz, hw⟩ := hh 0 (by simp)
      obtain ⟨zs, e1, e2, e3⟩ := ih (fun i hi => by have := hh (i + 1) (by simp; omega); simpa using this)
      refine ⟨z :: zs, by simp [e1], ?_, ?_⟩
      · simp at hz; rw [hz, e2]; rfl
      · intro y hy
        rcases List.mem_cons.1 hy with rfl | hy
        · exact hw
        · exact e3 y hy
  obtain ⟨zs, e1, e2, e3⟩ := main cs (fun i hi => key i (by omega))
  exact ⟨zs, by omega, e2, e3⟩
end
theorem open_slot {H : Type} {enc : TypeId × Value → H} (W : World) {r : Reach} (b0 : Nat) {base : Nat} (v : Value) (d : DataW H) (p : List MemPlace) {spare : Nat → Bool} {held : Bool}
    (hv : Value.okWide Try.prog W r b0 38 v) (h : DataW.Trod enc Try.prog W base spare held 38 v d p) :
    ∃ x : Int × List Int, v = slotV x.1 x.2 ∧ (x.2.length = 8 ∧ U64s x.1 ∧ ∀ r ∈ x.2, I64 r) := by
  obtain ⟨cs, rfl, hsz⟩ := Go.WideShapes.okWide_struct Try.underlying38 hv
  obtain ⟨fuel, hf⟩ := h
  obtain ⟨xs, n, _, _, hl, hlen, hg⟩ := DataW.trod_struct Try.underlying38 hf
  have g0 := hg 0 _ rfl
  have g1 := hg 1 _ rfl
  have c1 : Try.prog.cellsOf 22 = 1 := by kernel_rfl
  have c8 : Try.prog.cellsOf 36 = 8 := by kernel_rfl
  have c9 : Try.prog.cellsOf 38 = 9 := by kernel_rfl
  replace hlen : xs.length = 2 := hlen
  obtain ⟨q0, q1, rfl⟩ := list2 hlen
  replace g0 := g0.trans (show _ = some q0 from rfl)
  replace g1 := g1.trans (show _ = some q1 from rfl)
  rw [c9] at hl
  obtain ⟨z, hz, _, hw⟩ := DataW.trod_int Try.underlying22 g0
  obtain ⟨zs, e1, e2, e3⟩ := trod_array_ints Try.underlying36 Try.underlying3 (by kernel_rfl) (by kernel_rfl) g1
  have hl' : cs.toList.length = 9 := hl
  refine ⟨(z, zs), ?_, e1, ?_, fun r hr => ?_⟩
  · unfold slotV
    congr 1
    apply Array.toList_inj.1
    simp only
    have hz' : ((cs.toList.drop 0).take (Try.prog.cellsOf 22)) = [Value.int .u64 z] := hz
    have e2' : ((cs.toList.drop 1).take (Try.prog.cellsOf 36)) = zs.map (Value.int .i64) := e2
    rw [c1] at hz'
    rw [c8] at e2'
    rw [List.take_of_length_le (by simp; omega)] at e2'
    match hcs : cs.toList with
    | [] => rw [hcs] at hl'; simp at hl'
    | c :: rest =>
      rw [hcs] at hz' e2'
      simp at hz' e2'
      rw [hz', e2']
  · have := hw
    simp [Lit.wf, IntKind.min, IntKind.max, IntKind.signed, IntKind.bits] at this
    exact ⟨by omega, by omega⟩
  · have := e3 r hr
    simp [Lit.wf, IntKind.min, IntKind.max, IntKind.signed, IntKind.bits] at this
    exact ⟨by omega, by omega⟩
theorem walk_SlotCodes (x : Int × List Int) (z : List Int) (w : World) (hx : x.2.length = 8 ∧ U64s x.1 ∧ ∀ r ∈ x.2, I64 r) (hz : z.length = 16) (wz : ∀ y ∈ z, (Lit.int .u64 y).wf = true) :
    Calls Try.prog 4 #[slotV x.1 x.2, .agg (z.map (Value.int .u64)).toArray] w fun e w' => e = .returned (.bool true) ∧ Below w.heap.size w w' := by
  obtain ⟨E, R⟩ := x
  obtain ⟨h8, hE, hR⟩ := hx
  simp only at h8 hE hR ⊢
  obtain ⟨r0, r1, r2, r3, r4, r5, r6, r7, rfl⟩ := list8 h8
  obtain ⟨l0, l1, l2, l3, l4, l5, l6, l7, l8, l9, l10, l11, l12, l13, l14, l15, rfl⟩ := list16 hz
  obtain ⟨x0, x1, x2, x3, x4, x5, x6, x7, hx⟩ := list8 (dVR_len [l0, l1, l2, l3, l4, l5, l6, l7, l8, l9, l10, l11, l12, l13, l14, l15] rfl)
  exact walk16_SlotCodes E r0 r1 r2 r3 r4 r5 r6 r7 l0 l1 l2 l3 l4 l5 l6 l7 l8 l9 l10 l11 l12 l13 l14 l15 x0 x1 x2 x3 x4 x5 x6 x7 _ w hE hR wz hx rfl
theorem walk_SlotChooses (y z : List Int) (w : World) (hy : y.length = 16) (wy : ∀ x ∈ y, (Lit.int .u64 x).wf = true) (hz : z.length = 16) (wz : ∀ y ∈ z, (Lit.int .u64 y).wf = true) :
    Calls Try.prog 6 #[.agg (y.map (Value.int .u64)).toArray, .agg (z.map (Value.int .u64)).toArray] w fun e w' => e = .returned (.bool true) ∧ Below w.heap.size w w' := by
  obtain ⟨l0, l1, l2, l3, l4, l5, l6, l7, l8, l9, l10, l11, l12, l13, l14, l15, rfl⟩ := list16 hy
  obtain ⟨m0, m1, m2, m3, m4, m5, m6, m7, m8, m9, m10, m11, m12, m13, m14, m15, rfl⟩ := list16 hz
  obtain ⟨x0, x1, x2, x3, x4, x5, x6, x7, hx⟩ := list8 (chR_len [l0, l1, l2, l3, l4, l5, l6, l7, l8, l9, l10, l11, l12, l13, l14, l15] [m0, m1, m2, m3, m4, m5, m6, m7, m8, m9, m10, m11, m12, m13, m14, m15] rfl rfl)
  exact walk32_SlotChooses l0 l1 l2 l3 l4 l5 l6 l7 l8 l9 l10 l11 l12 l13 l14 l15 m0 m1 m2 m3 m4 m5 m6 m7 m8 m9 m10 m11 m12 m13 m14 m15 x0 x1 x2 x3 x4 x5 x6 x7 w wy wz hx
end Go.Proofs.Ytgcjagffoeoldaa
