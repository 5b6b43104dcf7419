/- super.Line of a device. -/
import Derived.Test.YtmekhdclnhhhbaaLw10
namespace Go.Proofs.Ytmekhdclnhhhbaa
open Go.RowKit
set_option linter.unusedSimpArgs false
set_option linter.unusedVariables false
/-- the first k words of a device -/
def gets (l : List Int) : Nat → List Int
  | 0 => []
  | k + 1 => gets l k ++ [Nv.get l (k : Int)]
theorem gets_len (l : List Int) : ∀ k, (gets l k).length = k
  | 0 => rfl
  | k + 1 => by rw [gets, List.length_append, gets_len l k]; rfl
theorem gets_set (l : List Int) (k : Nat) (hk : k < 8) : (gets l k ++ List.replicate (8 - k) 0).set k (Nv.get l (k : Int)) = gets l (k + 1) ++ List.replicate (8 - (k + 1)) 0 := by
  rw [List.set_append, if_neg (by rw [gets_len]; omega), gets_len, Nat.sub_self, show 8 - k = (8 - (k + 1)) + 1 by omega, List.replicate_succ, List.set_cons_zero, gets, List.append_assoc]
  rfl
theorem sLine (g : Geo) (d : Nv.D) (w : World) (hE : Ents (devL g d) w) :
    Calls Try.prog 19 [ptr g.p].toArray w fun e w' => e = .returned (.agg ((gets d.cache 8).map (Value.int .u64)).toArray) ∧ Only [] w w' := by
  have HR := Heap.start hE
  have H := Heap.nil w
  refine k_in (N := 16) Try.func19 rfl rfl rfl ?_
  refine k_seq ?_
  refine k_rg ?_
  refine s_al H rfl inf23 ?_
  intro p2 _ H'; clear H; have H := H'; clear H'
  refine k_nil ?_
  refine c_norm ?_
  refine k_seq ?_
  refine k_rg ?_
  refine s_al H rfl inf23 ?_
  intro p3 _ H'; clear H; have H := H'; clear H'
  refine k_nil ?_
  refine c_norm ?_
  refine k_seq ?_
  refine k_seq ?_
  refine k_rg ?_
  refine s_run rfl rfl (r_mv (v := .int _ _) rfl) ?_
  refine k_nil ?_
  refine c_norm ?_
  refine k_b ?_
  refine k_loop (fun z f W => ∃ k : Nat, k ≤ 8 ∧ z = 8 - k ∧ f 0 = ptr g.p ∧ f 2 = ptr p2 ∧ f 3 = ptr p3 ∧ f 5 = .int .i64 k ∧ Heap w [] [blk p3 ((gets d.cache k ++ List.replicate (8 - k) 0).map (Value.int .u64)) 23, blk p2 ((List.replicate 8 0).map (Value.int .u64)) 23] W) 8 ⟨0, by omega, rfl, rfl, rfl, rfl, rfl, H⟩ ?_
  clear H
  rintro z f W ⟨k, hk, rfl, f0, f2, f3, f5, H⟩
  obtain ⟨f, rfl⟩ := live4 f0 f2 f3 f5
  clear f0 f2 f3 f5
  by_cases hlt : k < 8
  · obtain ⟨c8, hv8⟩ : ∃ c0, ((gets d.cache k ++ List.replicate (8 - k) 0).map (Value.int .u64))[k]? = some c0 := ⟨_, List.getElem?_eq_getElem (by rw [List.length_map, List.length_append, gets_len, List.length_replicate]; omega)⟩
    refine k_seq ?_
    refine k_rg ?_
    refine s_run rfl rfl (r_lssT rfl rfl (by omega)) ?_
    refine k_nil ?_
    refine c_norm ?_
    refine k_seq ?_
    refine k_t rfl ?_
    refine k_skip ?_
    refine c_norm ?_
    refine k_seq ?_
    refine k_b ?_
    refine k_seq ?_
    refine k_rg ?_
    refine s_run rfl rfl (r_mv (v := .int _ _) rfl) ?_
    refine s_run rfl rfl (r_as (v := .int _ _) rfl) ?_
    refine k_nil ?_
    refine c_norm ?_
    refine k_rg ?_
    refine s_run rfl rfl (r_mv (v := .int _ _) rfl) ?_
    refine s_run rfl rfl (r_mv (v := .pointer _) rfl) ?_
    refine s_run rfl rfl (r_mv (v := .int _ _) rfl) ?_
    refine s_run rfl rfl (r_add rfl rfl (wI (by omega))) ?_
    refine s_call rfl (nGet g d (0 + (k : Int)) _ (HR.same H.only).ents) (ca25 rfl) ?_
    rintro e W1 ⟨rfl, H'⟩
    refine ⟨_, rfl, ?_⟩
    have H := H.same H'; clear H'
    refine s_run rfl rfl (r_ia0 (i := k) rfl rfl (by omega) (by omega) Try.underlying23 sz22) ?_
    refine s_st (u := .int _ _) H 0 rfl rfl rfl rfl hv8 rfl sz22 ?_
    intro _ H'; simp only [List.set_cons_zero, List.set_cons_succ, List.take_succ_cons, List.take_zero, List.drop_succ_cons, List.drop_zero, List.cons_append, List.nil_append, List.append_nil, List.length_cons, List.length_nil, Nat.reduceAdd] at H'; clear H; have H := H'; clear H'
    refine k_nil ?_
    refine b_norm ?_
    refine c_norm ?_
    refine k_rg ?_
    refine s_run rfl rfl (r_add rfl rfl (wI (by omega))) ?_
    refine s_run rfl rfl (r_mv (v := .int _ _) rfl) ?_
    refine k_nil ?_
    refine c_round ?_
    rw [Int.zero_add, ← List.map_set, gets_set d.cache k hlt] at H
    refine ⟨_, _, ?_, rfl, k + 1, by omega, rfl, rfl, rfl, rfl, rfl, H⟩
    omega
  · obtain rfl : k = 8 := by omega
    refine k_seq ?_
    refine k_rg ?_
    refine s_run rfl rfl (r_lssF rfl rfl (by omega)) ?_
    refine k_nil ?_
    refine c_norm ?_
    refine k_seq ?_
    refine k_f rfl ?_
    refine k_exit ?_
    refine c_exit ?_
    refine c_exit ?_
    refine b_hit ?_
    refine c_norm ?_
    refine k_seq ?_
    refine k_rg ?_
    refine s_run rfl rfl (r_la H 0 rfl rfl rfl ag23 sz23) ?_
    refine s_sw H 1 rfl rfl rfl rfl rfl rfl rfl sz23 ?_
    intro _ H'; simp only [List.set_cons_zero, List.set_cons_succ, List.take_succ_cons, List.take_zero, List.drop_succ_cons, List.drop_zero, List.cons_append, List.nil_append, List.append_nil, List.length_cons, List.length_nil, Nat.reduceAdd] at H'; clear H; have H := H'; clear H'
    refine k_nil ?_
    refine c_norm ?_
    refine k_ret ?_
    refine fx1r rfl (rv_a H 1 rfl rfl rfl ag23 sz23) ?_
    exact ⟨rfl, H.only⟩
end Go.Proofs.Ytmekhdclnhhhbaa
