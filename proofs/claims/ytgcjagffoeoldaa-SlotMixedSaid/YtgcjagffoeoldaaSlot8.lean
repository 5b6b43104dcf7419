/- Slots: the contracts as functions of their words, and slots compared. -/
import Derived.Test.YtgcjagffoeoldaaSlot7
import Derived.Test.YtgcjagffoeoldaaReg
namespace Go.Proofs.Ytgcjagffoeoldaa
open Go.RowKit
set_option linter.unusedVariables false
set_option linter.unusedSimpArgs false
set_option maxHeartbeats 4000000
set_option maxRecDepth 100000
def slotV (E : Int) (R : List Int) : Value := .agg (Value.int .u64 E :: R.map (Value.int .i64)).toArray
theorem run_roots_eq (d : Nat) (R S : List Int) (hR : R.length = 8) (hS : S.length = 8) (W : World) : (Op.equalIn (d + 2) 36 (.agg (R.map (Value.int .i64)).toArray) (.agg (S.map (Value.int .i64)).toArray)).run Try.prog W = .ok (eqB R S) W := by
  obtain ⟨i0, hi0, _⟩ := info_parts info_int
  exact run_equalIn_ints W d Try.underlying36 Try.underlying3 hi0 (by kernel_rfl) R S hR hS
theorem part_roots (E : Int) (R : List Int) (hR : R.length = 8) (W : World) : (part 36 (Value.int .u64 E :: R.map (Value.int .i64)).toArray 1).run Try.prog W = .ok (.agg (R.map (Value.int .i64)).toArray) W := by
  have h1 : (isAgg 36).run Try.prog W = .ok true W := by kernel_rfl
  have h2 : (sizeOf 36).run Try.prog W = .ok 8 W := by kernel_rfl
  simp only [part, Sem.run_bind, h1, Result.andThen_ok, if_true, h2]
  simp only [Sem.run_pure]
  congr 3
  simp [hR]
  rw [← hR, ← List.length_map (f := Value.int .i64), List.take_length]
theorem part_epoch (E : Int) (R : List Int) (W : World) : (part 22 (Value.int .u64 E :: R.map (Value.int .i64)).toArray 0).run Try.prog W = .ok (.int .u64 E) W := by
  have h1 : (isAgg 22).run Try.prog W = .ok false W := by kernel_rfl
  simp only [part, Sem.run_bind, h1, Result.andThen_ok, Bool.false_eq_true, if_false]
  simp
theorem fields_shape (t : TypeId) (n0 n1 : String) (t0 t1 o0 o1 : Nat) (h : (Try.prog.fieldsOf t).toList.map (fun f => (f.name, f.type, f.offset)) = [(n0, t0, o0), (n1, t1, o1)]) :
    ∃ f g : Field, (Try.prog.fieldsOf t).toList = [f, g] ∧ f.name = n0 ∧ f.type = t0 ∧ f.offset = o0 ∧ g.name = n1 ∧ g.type = t1 ∧ g.offset = o1 := by
  match hl : (Try.prog.fieldsOf t).toList with
  | [f, g] => rw [hl] at h; simp at h; exact ⟨f, g, rfl, h.1.1, h.1.2.1, h.1.2.2, h.2.1, h.2.2.1, h.2.2.2⟩
  | [] => rw [hl] at h; simp at h
  | [_] => rw [hl] at h; simp at h
  | _ :: _ :: _ :: _ => rw [hl] at h; simp at h
theorem eq_slot_of (T : TypeId) (E F : Int) (R S : List Int) (hR : R.length = 8) (hS : S.length = 8) (W : World) (ht : Try.prog.underlying T = some (.struct (Try.prog.fieldsOf T))) (hp : Try.prog.stoodInHeld T = false)
    (hf : (Try.prog.fieldsOf T).toList.map (fun f => (f.name, f.type, f.offset)) = [("Epoch", 22, 0), ("Roots", 36, 1)]) :
    (Op.equalIn 10000 T (slotV E R) (slotV F S)).run Try.prog W = .ok (decide (E = F) && eqB R S) W := by
  unfold slotV
  rw [run_equalIn_struct W 9999 _ _ _ ht hp]
  obtain ⟨f, g, hl, a1, a2, a3, b1, b2, b3⟩ := fields_shape _ _ _ _ _ _ _ hf
  rw [hl]
  have e1 : (Op.equalIn 9999 22 (.int .u64 E) (.int .u64 F)).run Try.prog W = .ok (E == F) W := run_equalIn_int W 9998 22 .u64 .u64 E F Try.underlying22
  have e2 : (Op.equalIn 9999 36 (.agg (R.map (Value.int .i64)).toArray) (.agg (S.map (Value.int .i64)).toArray)).run Try.prog W = .ok (eqB R S) W := run_roots_eq 9997 R S hR hS W
  have p1 := part_epoch E R W
  have p2 := part_epoch F S W
  have p3 := part_roots E R hR W
  have p4 := part_roots F S hS W
  simp only [Op.eqFields, a1, a2, a3, b1, b2, b3, Sem.run_bind]
  rw [if_pos (by decide), if_pos (by decide), Sem.run_bind, p1, Result.andThen_ok, Sem.run_bind, p2, Result.andThen_ok, Sem.run_bind, e1, Result.andThen_ok]
  by_cases h : E = F
  · subst h
    simp only [beq_self_eq_true, Bool.not_true, Bool.false_eq_true, if_false, decide_true, Bool.true_and]
    rw [Sem.run_bind, p3, Result.andThen_ok, Sem.run_bind, p4, Result.andThen_ok, Sem.run_bind, e2, Result.andThen_ok]
    cases eqB R S <;> simp
  · have : (E == F) = false := by simpa using h
    simp [this, h]
theorem eq_slot (E F : Int) (R S : List Int) (hR : R.length = 8) (hS : S.length = 8) (W : World) : (Op.equalIn 10000 38 (slotV E R) (slotV F S)).run Try.prog W = .ok (decide (E = F) && eqB R S) W :=
  eq_slot_of _ E F R S hR hS W (by kernel_rfl) (by kernel_rfl) (by kernel_rfl)
theorem eq_rslot (E F : Int) (R S : List Int) (hR : R.length = 8) (hS : S.length = 8) (W : World) : (Op.equalIn 10000 42 (slotV E R) (slotV F S)).run Try.prog W = .ok (decide (E = F) && eqB R S) W :=
  eq_slot_of _ E F R S hR hS W (by kernel_rfl) (by kernel_rfl) (by kernel_rfl)
end Go.Proofs.Ytgcjagffoeoldaa
