/- NvmSizes. -/
import Derived.Test.YtmekhdclnhhhbaaLw5
namespace Go.Proofs.Ytmekhdclnhhhbaa
open Go.RowKit
set_option linter.unusedSimpArgs false
set_option linter.unusedVariables false
section
variable {P : Program} {n : Nat} {f : Nat → Value} {x y : Operand} {t t2 ty : TypeId} {pos : String} {af : Array Edge} {g : Option (Nat × Bool)} {dst : Option Tmp} {W : World}
theorem r_beqT {a b : Bool} (hx : ev n f x = .bool a) (hy : ev n f y = .bool b) (h : a = b) (ht : P.underlying t = some .bool) : (execOp (ev n f) ⟨dst, .binOp .eql t x y t2, ty, pos, af, g⟩).run P W = .ok (.value (.bool true)) W := by
  subst h
  have h : ∀ d : Nat, (Op.equalIn (d + 1) t (.bool a) (.bool a)).run P W = .ok true W := fun d => by
    simp [Op.equalIn, run_underlying ht]
  have h2 : (binOp .eql t (.bool a) (.bool a)).run P W = .ok (.bool true) W := by
    simp only [binOp]
    simp [Op.equal, Op.maxDepth, h 9999]
  have h3 : (eqGuard .eql t x y (.bool a) (.bool a)).run P W = .ok () W := by simp [eqGuard]
  simp only [execOp, hx, hy, Sem.run_bind, h3, h2, Result.andThen_ok]; rfl
end
theorem rUp (n : Int) (w : World) (h : -9223372036854775808 ≤ n ∧ n ≤ 9223372036854775807) :
    Calls Try.prog 22 [.int .i64 n, .int .i64 8].toArray w fun e w' => e = .returned (.int .i64 (((n.toNat + 7) / 8 : Nat) : Int)) ∧ Only [] w w' := by
  have H := Heap.nil w
  by_cases h0 : n ≤ 0
  · refine k_in (N := 22) Try.func22 rfl rfl rfl ?_
    refine k_seq ?_
    refine k_rg ?_
    refine s_run rfl rfl (r_as (v := .int _ _) rfl) ?_
    refine k_nil ?_
    refine c_norm ?_
    refine k_seq ?_
    refine k_seq ?_
    refine k_rg ?_
    refine s_run rfl rfl (r_mv (v := .int _ _) rfl) ?_
    refine s_run rfl rfl (r_leqT rfl rfl (by omega)) ?_
    refine s_run rfl rfl (r_mv (v := .bool _) rfl) ?_
    refine s_off rfl (g_off 8 (by kernel_rfl) rfl rfl) ?_
    refine s_off rfl (g_off 8 (by kernel_rfl) rfl rfl) ?_
    refine s_run rfl rfl (r_pkT (v := .bool _) rfl rfl) ?_
    refine k_nil ?_
    refine c_norm ?_
    refine k_t rfl ?_
    refine k_seq ?_
    refine k_rg ?_
    refine s_run rfl rfl (r_as (v := .int _ _) rfl) ?_
    refine k_nil ?_
    refine c_norm ?_
    refine k_ret ?_
    refine c_ret ?_
    refine fin1r (v := .int _ _) rfl rfl ?_
    exact ⟨by rw [show ((n.toNat + 7) / 8 : Nat) = 0 from by omega]; rfl, H.only⟩
  · by_cases h1 : n % 8 = 0
    · refine k_in (N := 22) Try.func22 rfl rfl rfl ?_
      refine k_seq ?_
      refine k_rg ?_
      refine s_run rfl rfl (r_as (v := .int _ _) rfl) ?_
      refine k_nil ?_
      refine c_norm ?_
      refine k_seq ?_
      refine k_seq ?_
      refine k_rg ?_
      refine s_run rfl rfl (r_mv (v := .int _ _) rfl) ?_
      refine s_run rfl rfl (r_leqF rfl rfl (by omega)) ?_
      refine s_run rfl rfl (r_mv (v := .bool _) rfl) ?_
      refine s_run rfl (g_on 8 (by kernel_rfl) rfl) (r_mv (v := .int _ _) rfl) ?_
      refine s_run rfl (g_on 8 (by kernel_rfl) rfl) (r_leqF rfl rfl (by omega)) ?_
      refine s_run rfl rfl (r_pkF (v := .bool _) rfl rfl) ?_
      refine k_nil ?_
      refine c_norm ?_
      refine k_f rfl ?_
      refine k_skip ?_
      refine c_norm ?_
      refine k_seq ?_
      refine k_rg ?_
      refine s_run rfl rfl (r_mv (v := .int _ _) rfl) ?_
      refine s_run rfl rfl (r_mv (v := .int _ _) rfl) ?_
      refine s_run rfl rfl (r_quo rfl rfl (by omega) (wI (by omega))) ?_
      refine s_run rfl rfl (r_as (v := .int _ _) rfl) ?_
      refine k_nil ?_
      refine c_norm ?_
      refine k_seq ?_
      refine k_seq ?_
      refine k_rg ?_
      refine s_run rfl rfl (r_mv (v := .int _ _) rfl) ?_
      refine s_run rfl rfl (r_mv (v := .int _ _) rfl) ?_
      refine s_run rfl rfl (r_rem rfl rfl (by omega)) ?_
      refine s_run rfl rfl (r_neqF rfl rfl (by omega)) ?_
      refine k_nil ?_
      refine c_norm ?_
      refine k_f rfl ?_
      refine k_skip ?_
      refine c_norm ?_
      refine k_seq ?_
      refine k_rg ?_
      refine s_run rfl rfl (r_mv (v := .int _ _) rfl) ?_
      refine s_run rfl rfl (r_as (v := .int _ _) rfl) ?_
      refine k_nil ?_
      refine c_norm ?_
      refine k_ret ?_
      refine fin1r (v := .int _ _) rfl rfl ?_
      exact ⟨ret_int (by omega), H.only⟩
    · refine k_in (N := 22) Try.func22 rfl rfl rfl ?_
      refine k_seq ?_
      refine k_rg ?_
      refine s_run rfl rfl (r_as (v := .int _ _) rfl) ?_
      refine k_nil ?_
      refine c_norm ?_
      refine k_seq ?_
      refine k_seq ?_
      refine k_rg ?_
      refine s_run rfl rfl (r_mv (v := .int _ _) rfl) ?_
      refine s_run rfl rfl (r_leqF rfl rfl (by omega)) ?_
      refine s_run rfl rfl (r_mv (v := .bool _) rfl) ?_
      refine s_run rfl (g_on 8 (by kernel_rfl) rfl) (r_mv (v := .int _ _) rfl) ?_
      refine s_run rfl (g_on 8 (by kernel_rfl) rfl) (r_leqF rfl rfl (by omega)) ?_
      refine s_run rfl rfl (r_pkF (v := .bool _) rfl rfl) ?_
      refine k_nil ?_
      refine c_norm ?_
      refine k_f rfl ?_
      refine k_skip ?_
      refine c_norm ?_
      refine k_seq ?_
      refine k_rg ?_
      refine s_run rfl rfl (r_mv (v := .int _ _) rfl) ?_
      refine s_run rfl rfl (r_mv (v := .int _ _) rfl) ?_
      refine s_run rfl rfl (r_quo rfl rfl (by omega) (wI (by omega))) ?_
      refine s_run rfl rfl (r_as (v := .int _ _) rfl) ?_
      refine k_nil ?_
      refine c_norm ?_
      refine k_seq ?_
      refine k_seq ?_
      refine k_rg ?_
      refine s_run rfl rfl (r_mv (v := .int _ _) rfl) ?_
      refine s_run rfl rfl (r_mv (v := .int _ _) rfl) ?_
      refine s_run rfl rfl (r_rem rfl rfl (by omega)) ?_
      refine s_run rfl rfl (r_neqT rfl rfl (by omega)) ?_
      refine k_nil ?_
      refine c_norm ?_
      refine k_t rfl ?_
      refine k_rg ?_
      refine s_run rfl rfl (r_mv (v := .int _ _) rfl) ?_
      refine s_run rfl rfl (r_add rfl rfl (wI (by omega))) ?_
      refine s_run rfl rfl (r_as (v := .int _ _) rfl) ?_
      refine k_nil ?_
      refine c_norm ?_
      refine k_seq ?_
      refine k_rg ?_
      refine s_run rfl rfl (r_mv (v := .int _ _) rfl) ?_
      refine s_run rfl rfl (r_as (v := .int _ _) rfl) ?_
      refine k_nil ?_
      refine c_norm ?_
      refine k_ret ?_
      refine fin1r (v := .int _ _) rfl rfl ?_
      exact ⟨ret_int (by omega), H.only⟩
theorem dirtyTo_rep (m : Nat) : ∀ k, Nv.dirtyTo (List.replicate m false) k = []
  | 0 => rfl
  | k + 1 => by
    rw [Nv.dirtyTo, dirtyTo_rep m k, if_neg]
    by_cases hk : k < m <;> simp [List.getD, List.getElem?_replicate, hk]
theorem get_rep (l : Nat) (a : Int) : Nv.get (List.replicate l 0) a = 0 := by
  unfold Nv.get
  split
  · by_cases hk : a.toNat < l <;> simp [List.getD, List.getElem?_replicate, hk]
  · rfl
theorem walk_NvmSizes (n a : Int) (w : World) (wn : (Lit.int .i16 n).wf = true) (wa : (Lit.int .i64 a).wf = true) :
    Calls Try.prog 4 [.int .i16 n, .int .i64 a].toArray w fun e w' => e = .returned (.bool true) ∧ Below w.heap.size w w' := by
  have hn : -32768 ≤ n ∧ n ≤ 32767 := by
    simp [Lit.wf, IntKind.min, IntKind.max, IntKind.signed, IntKind.bits] at wn; omega
  have ha : -9223372036854775808 ≤ a ∧ a ≤ 9223372036854775807 := by
    simp [Lit.wf, IntKind.min, IntKind.max, IntKind.signed, IntKind.bits] at wa; omega
  have H := Heap.nil w
  have hN := fun W => nNew n W (by omega)
  have hU := fun W => rUp n W (by omega)
  have hm : (n.toNat + 7) / 8 ≤ 5000 := by omega
  generalize (n.toNat + 7) / 8 = m at *
  have ho : Nv.Ok (Nv.load (List.replicate (8 * m) 0) m) m := ⟨by simp [Nv.load], by simp [Nv.load], by simp [Nv.load], by simp [Nv.load], by simp [Nv.load]⟩
  have e1 : Nv.get (Nv.load (List.replicate (8 * m) 0) m).cache a = 0 := get_rep _ _
  have e2 : Nv.get (Nv.load (List.replicate (8 * m) 0) m).last a = 0 := get_rep _ _
  have e3 : Nv.dirtyTo (Nv.load (List.replicate (8 * m) 0) m).dirty m = [] := dirtyTo_rep m m
  have e4 : (Nv.load (List.replicate (8 * m) 0) m).dead = false := rfl
  have e5 : (Nv.load (List.replicate (8 * m) 0) m).steps = 0 := rfl
  have e6 : (Nv.store (Nv.load (List.replicate (8 * m) 0) m) m a 1).2 = if 0 ≤ a ∧ a < 8 * (m : Int) then 0 else 2 := by
    unfold Nv.store; split
    · rfl
    · rfl
  generalize Nv.load (List.replicate (8 * m) 0) m = d at *
  have hLi := fun g => nLines g d
  have hLe := fun g => nLen g d
  have hG := fun g => nGet g d a
  have hL := fun g => nLasting g d a
  have hD := fun g => nDirty' g d m
  have hDe := fun g => nDead g d
  have hSt := fun g => nSteps g d
  have hS := fun g => nStore g d m a 1
  rw [ho.hd] at hLi
  rw [ho.hc] at hLe
  rw [e1] at hG
  rw [e2] at hL
  rw [e3] at hD
  simp only [List.length_nil] at hD
  rw [e4] at hDe
  rw [e5] at hSt
  by_cases hin : 0 ≤ a ∧ a < 8 * (m : Int)
  · rw [e6, if_pos hin] at hS
    refine k_in (N := 81) Try.func4 rfl rfl rfl ?_
    refine k_seq ?_
    refine k_rg ?_
    refine s_run rfl rfl (r_as (v := .bool _) rfl) ?_
    refine k_nil ?_
    refine c_norm ?_
    refine k_seq ?_
    refine k_seq ?_
    refine k_rg ?_
    refine s_call rfl (lAwake _) (ca20 rfl) ?_
    rintro e W1 ⟨rfl, H'⟩
    refine ⟨_, rfl, ?_⟩
    have H := H.same H'; clear H'
    refine s_run rfl rfl (r_notT rfl) ?_
    refine k_nil ?_
    refine c_norm ?_
    refine k_f rfl ?_
    refine k_skip ?_
    refine c_norm ?_
    refine k_seq ?_
    refine k_rg ?_
    refine s_run rfl rfl (r_mv (v := .int _ _) rfl) ?_
    refine s_run rfl rfl (r_cv rfl (by kernel_rfl) Try.underlying3 (wI (by omega))) ?_
    refine s_call rfl (hN _) (ca21 rfl) ?_
    rintro e W1 ⟨g, rfl, hg, H'⟩
    refine ⟨_, rfl, ?_⟩
    have H := H.more (A := [grp _]) (grp_heap H'); clear H'; simp only [List.cons_append, List.nil_append] at H
    refine s_run rfl rfl (r_as (v := .pointer _) rfl) ?_
    refine k_nil ?_
    refine c_norm ?_
    refine k_seq ?_
    refine k_rg ?_
    refine s_run rfl rfl (r_mv (v := .int _ _) rfl) ?_
    refine s_run rfl rfl (r_cv rfl (by kernel_rfl) Try.underlying3 (wI (by omega))) ?_
    refine s_call rfl (hU _) (ca22 rfl) ?_
    rintro e W1 ⟨rfl, H'⟩
    refine ⟨_, rfl, ?_⟩
    have H := H.same H'; clear H'
    refine s_run rfl rfl (r_as (v := .int _ _) rfl) ?_
    refine k_nil ?_
    refine c_norm ?_
    refine k_seq ?_
    refine k_seq ?_
    refine k_rg ?_
    refine s_run rfl rfl (r_mv (v := .pointer _) rfl) ?_
    refine s_run rfl rfl (r_ptnilF rfl rfl Try.underlying26) ?_
    refine s_run rfl rfl (r_mv (v := .bool _) rfl) ?_
    refine s_run rfl (g_on 19 (by kernel_rfl) rfl) (r_mv (v := .pointer _) rfl) ?_
    refine s_call (g_on 19 (by kernel_rfl) rfl) (hLi g _ (H.grp_ents 0 rfl)) (ca23 rfl) ?_
    rintro e W1 ⟨rfl, H'⟩
    refine ⟨_, rfl, ?_⟩
    have H := H.same H'; clear H'
    refine s_run rfl (g_on 19 (by kernel_rfl) rfl) (r_mv (v := .int _ _) rfl) ?_
    refine s_run rfl (g_on 19 (by kernel_rfl) rfl) (r_neqF rfl rfl (by omega)) ?_
    refine s_run rfl rfl (r_pkF (v := .bool _) rfl rfl) ?_
    refine s_run rfl rfl (r_mv (v := .bool _) rfl) ?_
    refine s_run rfl (g_on 25 (by kernel_rfl) rfl) (r_mv (v := .pointer _) rfl) ?_
    refine s_call (g_on 25 (by kernel_rfl) rfl) (hLe g _ (H.grp_ents 0 rfl)) (ca24 rfl) ?_
    rintro e W1 ⟨rfl, H'⟩
    refine ⟨_, rfl, ?_⟩
    have H := H.same H'; clear H'
    refine s_run rfl (g_on 25 (by kernel_rfl) rfl) (r_mv (v := .int _ _) rfl) ?_
    refine s_run rfl (g_on 25 (by kernel_rfl) rfl) (r_mul rfl rfl (wI (by omega))) ?_
    refine s_run rfl (g_on 25 (by kernel_rfl) rfl) (r_neqF rfl rfl (by omega)) ?_
    refine s_run rfl rfl (r_pkF (v := .bool _) rfl rfl) ?_
    refine s_run rfl rfl (r_mv (v := .bool _) rfl) ?_
    refine s_run rfl (g_on 32 (by kernel_rfl) rfl) (r_mv (v := .pointer _) rfl) ?_
    refine s_run rfl (g_on 32 (by kernel_rfl) rfl) (r_mv (v := .int _ _) rfl) ?_
    refine s_call (g_on 32 (by kernel_rfl) rfl) (hG g _ (H.grp_ents 0 rfl)) (ca25 rfl) ?_
    rintro e W1 ⟨rfl, H'⟩
    refine ⟨_, rfl, ?_⟩
    have H := H.same H'; clear H'
    refine s_run rfl (g_on 32 (by kernel_rfl) rfl) (r_neqF rfl rfl (by omega)) ?_
    refine s_run rfl rfl (r_pkF (v := .bool _) rfl rfl) ?_
    refine s_run rfl rfl (r_mv (v := .bool _) rfl) ?_
    refine s_run rfl (g_on 38 (by kernel_rfl) rfl) (r_mv (v := .pointer _) rfl) ?_
    refine s_run rfl (g_on 38 (by kernel_rfl) rfl) (r_mv (v := .int _ _) rfl) ?_
    refine s_call (g_on 38 (by kernel_rfl) rfl) (hL g _ (H.grp_ents 0 rfl)) (ca26 rfl) ?_
    rintro e W1 ⟨rfl, H'⟩
    refine ⟨_, rfl, ?_⟩
    have H := H.same H'; clear H'
    refine s_run rfl (g_on 38 (by kernel_rfl) rfl) (r_neqF rfl rfl (by omega)) ?_
    refine s_run rfl rfl (r_pkF (v := .bool _) rfl rfl) ?_
    refine s_run rfl rfl (r_mv (v := .bool _) rfl) ?_
    refine s_run rfl (g_on 44 (by kernel_rfl) rfl) (r_mv (v := .pointer _) rfl) ?_
    refine s_call (g_on 44 (by kernel_rfl) rfl) (hD g _ (H.grp_ents 0 rfl) ho (by omega)) (ca27 rfl) ?_
    rintro e W1 ⟨A, b, c, rfl, _, H'⟩
    refine ⟨_, rfl, ?_⟩
    have H := H.more H'; clear H'; simp only [List.cons_append, List.nil_append] at H
    refine s_run rfl (g_on 44 (by kernel_rfl) rfl) (r_len rfl Try.underlying42) ?_
    refine s_run rfl (g_on 44 (by kernel_rfl) rfl) (r_neqF rfl rfl (by omega)) ?_
    refine s_run rfl rfl (r_pkF (v := .bool _) rfl rfl) ?_
    refine s_run rfl rfl (r_mv (v := .bool _) rfl) ?_
    refine s_run rfl (g_on 50 (by kernel_rfl) rfl) (r_mv (v := .pointer _) rfl) ?_
    refine s_call (g_on 50 (by kernel_rfl) rfl) (hDe g _ (H.grp_ents 1 rfl)) (ca28 rfl) ?_
    rintro e W1 ⟨rfl, H'⟩
    refine ⟨_, rfl, ?_⟩
    have H := H.same H'; clear H'
    refine s_run rfl rfl (r_pkF (v := .bool _) rfl rfl) ?_
    refine s_run rfl rfl (r_mv (v := .bool _) rfl) ?_
    refine s_run rfl (g_on 54 (by kernel_rfl) rfl) (r_mv (v := .pointer _) rfl) ?_
    refine s_call (g_on 54 (by kernel_rfl) rfl) (hSt g _ (H.grp_ents 1 rfl)) (ca29 rfl) ?_
    rintro e W1 ⟨rfl, H'⟩
    refine ⟨_, rfl, ?_⟩
    have H := H.same H'; clear H'
    refine s_run rfl (g_on 54 (by kernel_rfl) rfl) (r_neqF rfl rfl (by omega)) ?_
    refine s_run rfl rfl (r_pkF (v := .bool _) rfl rfl) ?_
    refine k_nil ?_
    refine c_norm ?_
    refine k_f rfl ?_
    refine k_skip ?_
    refine c_norm ?_
    refine k_seq ?_
    refine k_rg ?_
    refine s_run rfl rfl (r_mv (v := .int _ _) rfl) ?_
    refine s_run rfl rfl (r_geqT rfl rfl (by omega)) ?_
    refine s_run rfl rfl (r_mv (v := .bool _) rfl) ?_
    refine s_run rfl (g_on 61 (by kernel_rfl) rfl) (r_mv (v := .int _ _) rfl) ?_
    refine s_run rfl (g_on 61 (by kernel_rfl) rfl) (r_mv (v := .int _ _) rfl) ?_
    refine s_run rfl (g_on 61 (by kernel_rfl) rfl) (r_mul rfl rfl (wI (by omega))) ?_
    refine s_run rfl (g_on 61 (by kernel_rfl) rfl) (r_lssT rfl rfl (by omega)) ?_
    refine s_run rfl rfl (r_pkT (v := .bool _) rfl rfl) ?_
    refine s_run rfl rfl (r_as (v := .bool _) rfl) ?_
    refine k_nil ?_
    refine c_norm ?_
    refine k_seq ?_
    refine k_rg ?_
    refine s_run rfl rfl (r_mv (v := .pointer _) rfl) ?_
    refine s_run rfl rfl (r_mv (v := .int _ _) rfl) ?_
    refine s_call rfl (hS g _ (H.grp_ents 1 rfl) ho (by omega)) (ca30 rfl) ?_
    rintro e W1 ⟨rfl, H'⟩
    refine ⟨_, rfl, ?_⟩
    have H1 := H.grp_at 1 rfl H'; clear H H'; have H := H1; clear H1
    refine s_run rfl rfl (r_as (v := .int _ _) rfl) ?_
    refine k_nil ?_
    refine c_norm ?_
    refine k_seq ?_
    refine k_rg ?_
    refine s_run rfl rfl (r_mv (v := .int _ _) rfl) ?_
    refine s_run rfl rfl (r_eqlT rfl rfl (by omega)) ?_
    refine s_run rfl rfl (r_mv (v := .bool _) rfl) ?_
    refine s_run rfl rfl (r_beqT rfl rfl rfl Try.underlying4) ?_
    refine s_run rfl rfl (r_mv (v := .bool _) rfl) ?_
    refine s_run rfl (g_on 74 (by kernel_rfl) rfl) (r_mv (v := .bool _) rfl) ?_
    refine s_run rfl (g_on 74 (by kernel_rfl) rfl) (r_mv (v := .bool _) rfl) ?_
    refine s_off rfl (g_off 76 (by kernel_rfl) rfl rfl) ?_
    refine s_off rfl (g_off 76 (by kernel_rfl) rfl rfl) ?_
    refine s_run rfl (g_on 74 (by kernel_rfl) rfl) (r_pkT (v := .bool _) rfl rfl) ?_
    refine s_run rfl rfl (r_pkT (v := .bool _) rfl rfl) ?_
    refine s_run rfl rfl (r_as (v := .bool _) rfl) ?_
    refine k_nil ?_
    refine c_norm ?_
    refine k_ret ?_
    refine fin1r (v := .bool _) rfl rfl ?_
    exact ⟨rfl, H.only.below⟩
  · rw [e6, if_neg hin] at hS
    by_cases hneg : a < 0
    · refine k_in (N := 81) Try.func4 rfl rfl rfl ?_
      refine k_seq ?_
      refine k_rg ?_
      refine s_run rfl rfl (r_as (v := .bool _) rfl) ?_
      refine k_nil ?_
      refine c_norm ?_
      refine k_seq ?_
      refine k_seq ?_
      refine k_rg ?_
      refine s_call rfl (lAwake _) (ca20 rfl) ?_
      rintro e W1 ⟨rfl, H'⟩
      refine ⟨_, rfl, ?_⟩
      have H := H.same H'; clear H'
      refine s_run rfl rfl (r_notT rfl) ?_
      refine k_nil ?_
      refine c_norm ?_
      refine k_f rfl ?_
      refine k_skip ?_
      refine c_norm ?_
      refine k_seq ?_
      refine k_rg ?_
      refine s_run rfl rfl (r_mv (v := .int _ _) rfl) ?_
      refine s_run rfl rfl (r_cv rfl (by kernel_rfl) Try.underlying3 (wI (by omega))) ?_
      refine s_call rfl (hN _) (ca21 rfl) ?_
      rintro e W1 ⟨g, rfl, hg, H'⟩
      refine ⟨_, rfl, ?_⟩
      have H := H.more (A := [grp _]) (grp_heap H'); clear H'; simp only [List.cons_append, List.nil_append] at H
      refine s_run rfl rfl (r_as (v := .pointer _) rfl) ?_
      refine k_nil ?_
      refine c_norm ?_
      refine k_seq ?_
      refine k_rg ?_
      refine s_run rfl rfl (r_mv (v := .int _ _) rfl) ?_
      refine s_run rfl rfl (r_cv rfl (by kernel_rfl) Try.underlying3 (wI (by omega))) ?_
      refine s_call rfl (hU _) (ca22 rfl) ?_
      rintro e W1 ⟨rfl, H'⟩
      refine ⟨_, rfl, ?_⟩
      have H := H.same H'; clear H'
      refine s_run rfl rfl (r_as (v := .int _ _) rfl) ?_
      refine k_nil ?_
      refine c_norm ?_
      refine k_seq ?_
      refine k_seq ?_
      refine k_rg ?_
      refine s_run rfl rfl (r_mv (v := .pointer _) rfl) ?_
      refine s_run rfl rfl (r_ptnilF rfl rfl Try.underlying26) ?_
      refine s_run rfl rfl (r_mv (v := .bool _) rfl) ?_
      refine s_run rfl (g_on 19 (by kernel_rfl) rfl) (r_mv (v := .pointer _) rfl) ?_
      refine s_call (g_on 19 (by kernel_rfl) rfl) (hLi g _ (H.grp_ents 0 rfl)) (ca23 rfl) ?_
      rintro e W1 ⟨rfl, H'⟩
      refine ⟨_, rfl, ?_⟩
      have H := H.same H'; clear H'
      refine s_run rfl (g_on 19 (by kernel_rfl) rfl) (r_mv (v := .int _ _) rfl) ?_
      refine s_run rfl (g_on 19 (by kernel_rfl) rfl) (r_neqF rfl rfl (by omega)) ?_
      refine s_run rfl rfl (r_pkF (v := .bool _) rfl rfl) ?_
      refine s_run rfl rfl (r_mv (v := .bool _) rfl) ?_
      refine s_run rfl (g_on 25 (by kernel_rfl) rfl) (r_mv (v := .pointer _) rfl) ?_
      refine s_call (g_on 25 (by kernel_rfl) rfl) (hLe g _ (H.grp_ents 0 rfl)) (ca24 rfl) ?_
      rintro e W1 ⟨rfl, H'⟩
      refine ⟨_, rfl, ?_⟩
      have H := H.same H'; clear H'
      refine s_run rfl (g_on 25 (by kernel_rfl) rfl) (r_mv (v := .int _ _) rfl) ?_
      refine s_run rfl (g_on 25 (by kernel_rfl) rfl) (r_mul rfl rfl (wI (by omega))) ?_
      refine s_run rfl (g_on 25 (by kernel_rfl) rfl) (r_neqF rfl rfl (by omega)) ?_
      refine s_run rfl rfl (r_pkF (v := .bool _) rfl rfl) ?_
      refine s_run rfl rfl (r_mv (v := .bool _) rfl) ?_
      refine s_run rfl (g_on 32 (by kernel_rfl) rfl) (r_mv (v := .pointer _) rfl) ?_
      refine s_run rfl (g_on 32 (by kernel_rfl) rfl) (r_mv (v := .int _ _) rfl) ?_
      refine s_call (g_on 32 (by kernel_rfl) rfl) (hG g _ (H.grp_ents 0 rfl)) (ca25 rfl) ?_
      rintro e W1 ⟨rfl, H'⟩
      refine ⟨_, rfl, ?_⟩
      have H := H.same H'; clear H'
      refine s_run rfl (g_on 32 (by kernel_rfl) rfl) (r_neqF rfl rfl (by omega)) ?_
      refine s_run rfl rfl (r_pkF (v := .bool _) rfl rfl) ?_
      refine s_run rfl rfl (r_mv (v := .bool _) rfl) ?_
      refine s_run rfl (g_on 38 (by kernel_rfl) rfl) (r_mv (v := .pointer _) rfl) ?_
      refine s_run rfl (g_on 38 (by kernel_rfl) rfl) (r_mv (v := .int _ _) rfl) ?_
      refine s_call (g_on 38 (by kernel_rfl) rfl) (hL g _ (H.grp_ents 0 rfl)) (ca26 rfl) ?_
      rintro e W1 ⟨rfl, H'⟩
      refine ⟨_, rfl, ?_⟩
      have H := H.same H'; clear H'
      refine s_run rfl (g_on 38 (by kernel_rfl) rfl) (r_neqF rfl rfl (by omega)) ?_
      refine s_run rfl rfl (r_pkF (v := .bool _) rfl rfl) ?_
      refine s_run rfl rfl (r_mv (v := .bool _) rfl) ?_
      refine s_run rfl (g_on 44 (by kernel_rfl) rfl) (r_mv (v := .pointer _) rfl) ?_
      refine s_call (g_on 44 (by kernel_rfl) rfl) (hD g _ (H.grp_ents 0 rfl) ho (by omega)) (ca27 rfl) ?_
      rintro e W1 ⟨A, b, c, rfl, _, H'⟩
      refine ⟨_, rfl, ?_⟩
      have H := H.more H'; clear H'; simp only [List.cons_append, List.nil_append] at H
      refine s_run rfl (g_on 44 (by kernel_rfl) rfl) (r_len rfl Try.underlying42) ?_
      refine s_run rfl (g_on 44 (by kernel_rfl) rfl) (r_neqF rfl rfl (by omega)) ?_
      refine s_run rfl rfl (r_pkF (v := .bool _) rfl rfl) ?_
      refine s_run rfl rfl (r_mv (v := .bool _) rfl) ?_
      refine s_run rfl (g_on 50 (by kernel_rfl) rfl) (r_mv (v := .pointer _) rfl) ?_
      refine s_call (g_on 50 (by kernel_rfl) rfl) (hDe g _ (H.grp_ents 1 rfl)) (ca28 rfl) ?_
      rintro e W1 ⟨rfl, H'⟩
      refine ⟨_, rfl, ?_⟩
      have H := H.same H'; clear H'
      refine s_run rfl rfl (r_pkF (v := .bool _) rfl rfl) ?_
      refine s_run rfl rfl (r_mv (v := .bool _) rfl) ?_
      refine s_run rfl (g_on 54 (by kernel_rfl) rfl) (r_mv (v := .pointer _) rfl) ?_
      refine s_call (g_on 54 (by kernel_rfl) rfl) (hSt g _ (H.grp_ents 1 rfl)) (ca29 rfl) ?_
      rintro e W1 ⟨rfl, H'⟩
      refine ⟨_, rfl, ?_⟩
      have H := H.same H'; clear H'
      refine s_run rfl (g_on 54 (by kernel_rfl) rfl) (r_neqF rfl rfl (by omega)) ?_
      refine s_run rfl rfl (r_pkF (v := .bool _) rfl rfl) ?_
      refine k_nil ?_
      refine c_norm ?_
      refine k_f rfl ?_
      refine k_skip ?_
      refine c_norm ?_
      refine k_seq ?_
      refine k_rg ?_
      refine s_run rfl rfl (r_mv (v := .int _ _) rfl) ?_
      refine s_run rfl rfl (r_geqF rfl rfl (by omega)) ?_
      refine s_run rfl rfl (r_mv (v := .bool _) rfl) ?_
      refine s_off rfl (g_off 61 (by kernel_rfl) rfl rfl) ?_
      refine s_off rfl (g_off 61 (by kernel_rfl) rfl rfl) ?_
      refine s_off rfl (g_off 61 (by kernel_rfl) rfl rfl) ?_
      refine s_off rfl (g_off 61 (by kernel_rfl) rfl rfl) ?_
      refine s_run rfl rfl (r_pkF (v := .bool _) rfl rfl) ?_
      refine s_run rfl rfl (r_as (v := .bool _) rfl) ?_
      refine k_nil ?_
      refine c_norm ?_
      refine k_seq ?_
      refine k_rg ?_
      refine s_run rfl rfl (r_mv (v := .pointer _) rfl) ?_
      refine s_run rfl rfl (r_mv (v := .int _ _) rfl) ?_
      refine s_call rfl (hS g _ (H.grp_ents 1 rfl) ho (by omega)) (ca30 rfl) ?_
      rintro e W1 ⟨rfl, H'⟩
      refine ⟨_, rfl, ?_⟩
      have H1 := H.grp_at 1 rfl H'; clear H H'; have H := H1; clear H1
      refine s_run rfl rfl (r_as (v := .int _ _) rfl) ?_
      refine k_nil ?_
      refine c_norm ?_
      refine k_seq ?_
      refine k_rg ?_
      refine s_run rfl rfl (r_mv (v := .int _ _) rfl) ?_
      refine s_run rfl rfl (r_eqlF rfl rfl (by omega)) ?_
      refine s_run rfl rfl (r_mv (v := .bool _) rfl) ?_
      refine s_run rfl rfl (r_beqT rfl rfl rfl Try.underlying4) ?_
      refine s_run rfl rfl (r_mv (v := .bool _) rfl) ?_
      refine s_run rfl (g_on 74 (by kernel_rfl) rfl) (r_mv (v := .bool _) rfl) ?_
      refine s_run rfl (g_on 74 (by kernel_rfl) rfl) (r_mv (v := .bool _) rfl) ?_
      refine s_run rfl (g_on 76 (by kernel_rfl) rfl) (r_mv (v := .int _ _) rfl) ?_
      refine s_run rfl (g_on 76 (by kernel_rfl) rfl) (r_eqlT rfl rfl (by omega)) ?_
      refine s_run rfl (g_on 74 (by kernel_rfl) rfl) (r_pkF (v := .bool _) rfl rfl) ?_
      refine s_run rfl rfl (r_pkT (v := .bool _) rfl rfl) ?_
      refine s_run rfl rfl (r_as (v := .bool _) rfl) ?_
      refine k_nil ?_
      refine c_norm ?_
      refine k_ret ?_
      refine fin1r (v := .bool _) rfl rfl ?_
      exact ⟨rfl, H.only.below⟩
    · refine k_in (N := 81) Try.func4 rfl rfl rfl ?_
      refine k_seq ?_
      refine k_rg ?_
      refine s_run rfl rfl (r_as (v := .bool _) rfl) ?_
      refine k_nil ?_
      refine c_norm ?_
      refine k_seq ?_
      refine k_seq ?_
      refine k_rg ?_
      refine s_call rfl (lAwake _) (ca20 rfl) ?_
      rintro e W1 ⟨rfl, H'⟩
      refine ⟨_, rfl, ?_⟩
      have H := H.same H'; clear H'
      refine s_run rfl rfl (r_notT rfl) ?_
      refine k_nil ?_
      refine c_norm ?_
      refine k_f rfl ?_
      refine k_skip ?_
      refine c_norm ?_
      refine k_seq ?_
      refine k_rg ?_
      refine s_run rfl rfl (r_mv (v := .int _ _) rfl) ?_
      refine s_run rfl rfl (r_cv rfl (by kernel_rfl) Try.underlying3 (wI (by omega))) ?_
      refine s_call rfl (hN _) (ca21 rfl) ?_
      rintro e W1 ⟨g, rfl, hg, H'⟩
      refine ⟨_, rfl, ?_⟩
      have H := H.more (A := [grp _]) (grp_heap H'); clear H'; simp only [List.cons_append, List.nil_append] at H
      refine s_run rfl rfl (r_as (v := .pointer _) rfl) ?_
      refine k_nil ?_
      refine c_norm ?_
      refine k_seq ?_
      refine k_rg ?_
      refine s_run rfl rfl (r_mv (v := .int _ _) rfl) ?_
      refine s_run rfl rfl (r_cv rfl (by kernel_rfl) Try.underlying3 (wI (by omega))) ?_
      refine s_call rfl (hU _) (ca22 rfl) ?_
      rintro e W1 ⟨rfl, H'⟩
      refine ⟨_, rfl, ?_⟩
      have H := H.same H'; clear H'
      refine s_run rfl rfl (r_as (v := .int _ _) rfl) ?_
      refine k_nil ?_
      refine c_norm ?_
      refine k_seq ?_
      refine k_seq ?_
      refine k_rg ?_
      refine s_run rfl rfl (r_mv (v := .pointer _) rfl) ?_
      refine s_run rfl rfl (r_ptnilF rfl rfl Try.underlying26) ?_
      refine s_run rfl rfl (r_mv (v := .bool _) rfl) ?_
      refine s_run rfl (g_on 19 (by kernel_rfl) rfl) (r_mv (v := .pointer _) rfl) ?_
      refine s_call (g_on 19 (by kernel_rfl) rfl) (hLi g _ (H.grp_ents 0 rfl)) (ca23 rfl) ?_
      rintro e W1 ⟨rfl, H'⟩
      refine ⟨_, rfl, ?_⟩
      have H := H.same H'; clear H'
      refine s_run rfl (g_on 19 (by kernel_rfl) rfl) (r_mv (v := .int _ _) rfl) ?_
      refine s_run rfl (g_on 19 (by kernel_rfl) rfl) (r_neqF rfl rfl (by omega)) ?_
      refine s_run rfl rfl (r_pkF (v := .bool _) rfl rfl) ?_
      refine s_run rfl rfl (r_mv (v := .bool _) rfl) ?_
      refine s_run rfl (g_on 25 (by kernel_rfl) rfl) (r_mv (v := .pointer _) rfl) ?_
      refine s_call (g_on 25 (by kernel_rfl) rfl) (hLe g _ (H.grp_ents 0 rfl)) (ca24 rfl) ?_
      rintro e W1 ⟨rfl, H'⟩
      refine ⟨_, rfl, ?_⟩
      have H := H.same H'; clear H'
      refine s_run rfl (g_on 25 (by kernel_rfl) rfl) (r_mv (v := .int _ _) rfl) ?_
      refine s_run rfl (g_on 25 (by kernel_rfl) rfl) (r_mul rfl rfl (wI (by omega))) ?_
      refine s_run rfl (g_on 25 (by kernel_rfl) rfl) (r_neqF rfl rfl (by omega)) ?_
      refine s_run rfl rfl (r_pkF (v := .bool _) rfl rfl) ?_
      refine s_run rfl rfl (r_mv (v := .bool _) rfl) ?_
      refine s_run rfl (g_on 32 (by kernel_rfl) rfl) (r_mv (v := .pointer _) rfl) ?_
      refine s_run rfl (g_on 32 (by kernel_rfl) rfl) (r_mv (v := .int _ _) rfl) ?_
      refine s_call (g_on 32 (by kernel_rfl) rfl) (hG g _ (H.grp_ents 0 rfl)) (ca25 rfl) ?_
      rintro e W1 ⟨rfl, H'⟩
      refine ⟨_, rfl, ?_⟩
      have H := H.same H'; clear H'
      refine s_run rfl (g_on 32 (by kernel_rfl) rfl) (r_neqF rfl rfl (by omega)) ?_
      refine s_run rfl rfl (r_pkF (v := .bool _) rfl rfl) ?_
      refine s_run rfl rfl (r_mv (v := .bool _) rfl) ?_
      refine s_run rfl (g_on 38 (by kernel_rfl) rfl) (r_mv (v := .pointer _) rfl) ?_
      refine s_run rfl (g_on 38 (by kernel_rfl) rfl) (r_mv (v := .int _ _) rfl) ?_
      refine s_call (g_on 38 (by kernel_rfl) rfl) (hL g _ (H.grp_ents 0 rfl)) (ca26 rfl) ?_
      rintro e W1 ⟨rfl, H'⟩
      refine ⟨_, rfl, ?_⟩
      have H := H.same H'; clear H'
      refine s_run rfl (g_on 38 (by kernel_rfl) rfl) (r_neqF rfl rfl (by omega)) ?_
      refine s_run rfl rfl (r_pkF (v := .bool _) rfl rfl) ?_
      refine s_run rfl rfl (r_mv (v := .bool _) rfl) ?_
      refine s_run rfl (g_on 44 (by kernel_rfl) rfl) (r_mv (v := .pointer _) rfl) ?_
      refine s_call (g_on 44 (by kernel_rfl) rfl) (hD g _ (H.grp_ents 0 rfl) ho (by omega)) (ca27 rfl) ?_
      rintro e W1 ⟨A, b, c, rfl, _, H'⟩
      refine ⟨_, rfl, ?_⟩
      have H := H.more H'; clear H'; simp only [List.cons_append, List.nil_append] at H
      refine s_run rfl (g_on 44 (by kernel_rfl) rfl) (r_len rfl Try.underlying42) ?_
      refine s_run rfl (g_on 44 (by kernel_rfl) rfl) (r_neqF rfl rfl (by omega)) ?_
      refine s_run rfl rfl (r_pkF (v := .bool _) rfl rfl) ?_
      refine s_run rfl rfl (r_mv (v := .bool _) rfl) ?_
      refine s_run rfl (g_on 50 (by kernel_rfl) rfl) (r_mv (v := .pointer _) rfl) ?_
      refine s_call (g_on 50 (by kernel_rfl) rfl) (hDe g _ (H.grp_ents 1 rfl)) (ca28 rfl) ?_
      rintro e W1 ⟨rfl, H'⟩
      refine ⟨_, rfl, ?_⟩
      have H := H.same H'; clear H'
      refine s_run rfl rfl (r_pkF (v := .bool _) rfl rfl) ?_
      refine s_run rfl rfl (r_mv (v := .bool _) rfl) ?_
      refine s_run rfl (g_on 54 (by kernel_rfl) rfl) (r_mv (v := .pointer _) rfl) ?_
      refine s_call (g_on 54 (by kernel_rfl) rfl) (hSt g _ (H.grp_ents 1 rfl)) (ca29 rfl) ?_
      rintro e W1 ⟨rfl, H'⟩
      refine ⟨_, rfl, ?_⟩
      have H := H.same H'; clear H'
      refine s_run rfl (g_on 54 (by kernel_rfl) rfl) (r_neqF rfl rfl (by omega)) ?_
      refine s_run rfl rfl (r_pkF (v := .bool _) rfl rfl) ?_
      refine k_nil ?_
      refine c_norm ?_
      refine k_f rfl ?_
      refine k_skip ?_
      refine c_norm ?_
      refine k_seq ?_
      refine k_rg ?_
      refine s_run rfl rfl (r_mv (v := .int _ _) rfl) ?_
      refine s_run rfl rfl (r_geqT rfl rfl (by omega)) ?_
      refine s_run rfl rfl (r_mv (v := .bool _) rfl) ?_
      refine s_run rfl (g_on 61 (by kernel_rfl) rfl) (r_mv (v := .int _ _) rfl) ?_
      refine s_run rfl (g_on 61 (by kernel_rfl) rfl) (r_mv (v := .int _ _) rfl) ?_
      refine s_run rfl (g_on 61 (by kernel_rfl) rfl) (r_mul rfl rfl (wI (by omega))) ?_
      refine s_run rfl (g_on 61 (by kernel_rfl) rfl) (r_lssF rfl rfl (by omega)) ?_
      refine s_run rfl rfl (r_pkT (v := .bool _) rfl rfl) ?_
      refine s_run rfl rfl (r_as (v := .bool _) rfl) ?_
      refine k_nil ?_
      refine c_norm ?_
      refine k_seq ?_
      refine k_rg ?_
      refine s_run rfl rfl (r_mv (v := .pointer _) rfl) ?_
      refine s_run rfl rfl (r_mv (v := .int _ _) rfl) ?_
      refine s_call rfl (hS g _ (H.grp_ents 1 rfl) ho (by omega)) (ca30 rfl) ?_
      rintro e W1 ⟨rfl, H'⟩
      refine ⟨_, rfl, ?_⟩
      have H1 := H.grp_at 1 rfl H'; clear H H'; have H := H1; clear H1
      refine s_run rfl rfl (r_as (v := .int _ _) rfl) ?_
      refine k_nil ?_
      refine c_norm ?_
      refine k_seq ?_
      refine k_rg ?_
      refine s_run rfl rfl (r_mv (v := .int _ _) rfl) ?_
      refine s_run rfl rfl (r_eqlF rfl rfl (by omega)) ?_
      refine s_run rfl rfl (r_mv (v := .bool _) rfl) ?_
      refine s_run rfl rfl (r_beqT rfl rfl rfl Try.underlying4) ?_
      refine s_run rfl rfl (r_mv (v := .bool _) rfl) ?_
      refine s_run rfl (g_on 74 (by kernel_rfl) rfl) (r_mv (v := .bool _) rfl) ?_
      refine s_run rfl (g_on 74 (by kernel_rfl) rfl) (r_mv (v := .bool _) rfl) ?_
      refine s_run rfl (g_on 76 (by kernel_rfl) rfl) (r_mv (v := .int _ _) rfl) ?_
      refine s_run rfl (g_on 76 (by kernel_rfl) rfl) (r_eqlT rfl rfl (by omega)) ?_
      refine s_run rfl (g_on 74 (by kernel_rfl) rfl) (r_pkF (v := .bool _) rfl rfl) ?_
      refine s_run rfl rfl (r_pkT (v := .bool _) rfl rfl) ?_
      refine s_run rfl rfl (r_as (v := .bool _) rfl) ?_
      refine k_nil ?_
      refine c_norm ?_
      refine k_ret ?_
      refine fin1r (v := .bool _) rfl rfl ?_
      exact ⟨rfl, H.only.below⟩
end Go.Proofs.Ytmekhdclnhhhbaa
