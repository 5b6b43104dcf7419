/- The document's Dirty, All, Load; two lists alike. -/
import Derived.Test.YtmekhdclnhhhbaaRef6
namespace Go.Proofs.Ytmekhdclnhhhbaa
open Go.RowKit
set_option linter.unusedSimpArgs false
set_option linter.unusedVariables false
theorem rDirty (s : RefS) (d : Nv.D) (m : Nat) (w : World) (hz : Sees Value.bool w [] s.A3 d.dirty) (hl : d.dirty.length = m) (hm : m ≤ 100000) :
    Calls Try.prog 91 [.agg (refCells s d m).toArray].toArray w fun e w' => ∃ A b c, e = .returned (.slice A (Nv.dirtyTo d.dirty m).length c) ∧ ((Nv.dirtyTo d.dirty m).length ≠ 0 → A = some ⟨b, 0, none⟩) ∧ Heap w [] [vec (Value.int .i64) b (Nv.dirtyTo d.dirty m) 3] w' := by
  have H := Heap.nil w
  rw [refE]
  refine k_in (N := 22) Try.func91 rfl rfl rfl ?_
  refine k_seq ?_
  refine k_rg ?_
  refine s_box H rfl rfl ?_
  intro p1 _ H'; clear H; have H := H'; clear H'
  refine s_run rfl rfl (r_as (v := .slice _ _ _) rfl) ?_
  refine k_nil ?_
  refine c_norm ?_
  refine k_seq ?_
  refine k_rg ?_
  refine s_run rfl rfl (r_as (v := .slice _ _ _) rfl) ?_
  refine k_nil ?_
  refine c_norm ?_
  refine k_seq ?_
  refine k_seq ?_
  refine k_rg ?_
  refine s_run rfl rfl (r_as (v := .int _ _) rfl) ?_
  refine k_nil ?_
  refine c_norm ?_
  refine k_b ?_
  refine k_loop (fun q f W => ∃ (k : Nat) (A : Option Addr) (c : Nat), k ≤ m ∧ q = m - k ∧ f 1 = ptr p1 ∧ f 3 = .slice A (Nv.dirtyTo d.dirty k).length c ∧ f 4 = .int .i64 k ∧ Heap w [] [ownN 1 (.slice A (Nv.dirtyTo d.dirty k).length c) (Nv.dirtyTo d.dirty k).length ((Nv.dirtyTo d.dirty k).map (Value.int .i64)) 3, blk p1 [.slice s.A0 m s.c0, .slice s.A1 m s.c1, .slice s.A2 m s.c2, .slice s.A3 m s.c3, .slice s.A4 m s.c4, .int .i64 d.steps, .int .i64 s.rf, .bool d.dead] 55] W) m ⟨0, none, 0, by omega, rfl, rfl, rfl, rfl, H.own_nil 1 3⟩ ?_
  clear H
  rintro q f W ⟨k, A, c, hk, rfl, h1, h3, h4, H⟩
  have hlen := dirtyTo_len d.dirty k
  by_cases hlt : k < m
  · obtain ⟨bd, od, ed, _, hrd⟩ := hz (by omega)
    have hcd := hrd k _ (getE (by omega))
    simp only [ed] at H
    obtain ⟨f, rfl⟩ := live3 h1 h3 h4
    clear h1 h3 h4
    by_cases hv : d.dirty.getD k default = true
    · rw [hv] at hcd
      have e : Nv.dirtyTo d.dirty (k + 1) = Nv.dirtyTo d.dirty k ++ [(k : Int)] := by rw [Nv.dirtyTo]; exact if_pos hv
      have el : (Nv.dirtyTo d.dirty (k + 1)).length = (Nv.dirtyTo d.dirty k).length + 1 := by rw [e]; simp
      refine k_seq ?_
      refine k_seq ?_
      refine k_rg ?_
      refine s_run rfl rfl (r_mv (v := .int _ _) rfl) ?_
      refine s_run rfl rfl (r_fa0 rfl fo55_3) ?_
      refine s_run rfl rfl (r_lo H 1 rfl rfl rfl ag53) ?_
      refine s_run rfl rfl (r_len rfl Try.underlying53) ?_
      refine s_run rfl rfl (r_lssT rfl rfl (by omega)) ?_
      refine k_nil ?_
      refine c_norm ?_
      refine k_t rfl ?_
      refine k_skip ?_
      refine c_norm ?_
      refine k_seq ?_
      refine k_b ?_
      refine k_seq ?_
      refine k_rg ?_
      refine s_run rfl rfl (r_fa0 rfl fo55_3) ?_
      refine s_run rfl rfl (r_lo H 1 rfl rfl rfl ag53) ?_
      refine s_run rfl rfl (r_mv (v := .int _ _) rfl) ?_
      refine s_run rfl rfl (r_ix1o rfl rfl rfl (by omega) Try.underlying53 sz4) ?_
      refine s_run rfl rfl (r_lr H rfl hcd (by simp) ag4) ?_
      refine k_nil ?_
      refine c_norm ?_
      refine k_t rfl ?_
      refine k_rg ?_
      refine s_run rfl rfl (r_mv (v := .slice _ _ _) rfl) ?_
      refine s_run rfl rfl (r_mv (v := .int _ _) rfl) ?_
      refine s_app1 (enc := (Value.int .i64)) H 0 rfl rfl rfl rfl rfl rfl rfl (by omega) Try.underlying42 inf3 rfl ?_
      intro _ An cn _ H'; simp only [List.set_cons_zero, List.set_cons_succ, List.take_succ_cons, List.take_zero, List.drop_succ_cons, List.drop_zero, List.cons_append, List.nil_append, List.append_nil, List.length_cons, List.length_nil, Nat.reduceAdd] at H'; clear H; have H := H'; clear H'
      refine s_run rfl rfl (r_as (v := .slice _ _ _) rfl) ?_
      refine k_nil ?_
      refine b_norm ?_
      refine c_norm ?_
      refine k_rg ?_
      refine s_run rfl rfl (r_mv (v := .int _ _) rfl) ?_
      refine s_run rfl rfl (r_add rfl rfl (wI (by omega))) ?_
      refine s_run rfl rfl (r_as (v := .int _ _) rfl) ?_
      refine k_nil ?_
      refine c_round ?_
      rw [← e, ← el] at H
      refine ⟨_, _, ?_, rfl, k + 1, An, cn, by omega, rfl, rfl, ?_, rfl, ?_⟩
      · omega
      · rw [el]; rfl
      · rw [ed]; exact H
    · have hv2 : d.dirty.getD k default = false := by simpa using hv
      rw [hv2] at hcd
      have e : Nv.dirtyTo d.dirty (k + 1) = Nv.dirtyTo d.dirty k := by rw [Nv.dirtyTo]; exact if_neg hv
      refine k_seq ?_
      refine k_seq ?_
      refine k_rg ?_
      refine s_run rfl rfl (r_mv (v := .int _ _) rfl) ?_
      refine s_run rfl rfl (r_fa0 rfl fo55_3) ?_
      refine s_run rfl rfl (r_lo H 1 rfl rfl rfl ag53) ?_
      refine s_run rfl rfl (r_len rfl Try.underlying53) ?_
      refine s_run rfl rfl (r_lssT rfl rfl (by omega)) ?_
      refine k_nil ?_
      refine c_norm ?_
      refine k_t rfl ?_
      refine k_skip ?_
      refine c_norm ?_
      refine k_seq ?_
      refine k_b ?_
      refine k_seq ?_
      refine k_rg ?_
      refine s_run rfl rfl (r_fa0 rfl fo55_3) ?_
      refine s_run rfl rfl (r_lo H 1 rfl rfl rfl ag53) ?_
      refine s_run rfl rfl (r_mv (v := .int _ _) rfl) ?_
      refine s_run rfl rfl (r_ix1o rfl rfl rfl (by omega) Try.underlying53 sz4) ?_
      refine s_run rfl rfl (r_lr H rfl hcd (by simp) ag4) ?_
      refine k_nil ?_
      refine c_norm ?_
      refine k_f rfl ?_
      refine k_skip ?_
      refine b_norm ?_
      refine c_norm ?_
      refine k_rg ?_
      refine s_run rfl rfl (r_mv (v := .int _ _) rfl) ?_
      refine s_run rfl rfl (r_add rfl rfl (wI (by omega))) ?_
      refine s_run rfl rfl (r_as (v := .int _ _) rfl) ?_
      refine k_nil ?_
      refine c_round ?_
      rw [← e] at H
      refine ⟨_, _, ?_, rfl, k + 1, A, c, by omega, rfl, rfl, ?_, rfl, ?_⟩
      · omega
      · rw [e]; rfl
      · rw [ed]; exact H
  · obtain rfl : k = m := by omega
    obtain ⟨f, rfl⟩ := live3 h1 h3 h4
    clear h1 h3 h4
    refine k_seq ?_
    refine k_seq ?_
    refine k_rg ?_
    refine s_run rfl rfl (r_mv (v := .int _ _) rfl) ?_
    refine s_run rfl rfl (r_fa0 rfl fo55_3) ?_
    refine s_run rfl rfl (r_lo H 1 rfl rfl rfl ag53) ?_
    refine s_run rfl rfl (r_len rfl Try.underlying53) ?_
    refine s_run rfl rfl (r_lssF rfl rfl (by omega)) ?_
    refine k_nil ?_
    refine c_norm ?_
    refine k_f rfl ?_
    refine k_exit ?_
    refine c_exit ?_
    refine c_exit ?_
    refine b_hit ?_
    refine c_norm ?_
    refine k_seq ?_
    refine k_rg ?_
    refine s_run rfl rfl (r_mv (v := .slice _ _ _) rfl) ?_
    refine s_run rfl rfl (r_as (v := .slice _ _ _) rfl) ?_
    refine k_nil ?_
    refine c_norm ?_
    refine k_ret ?_
    refine fin1r (v := .slice _ _ _) rfl rfl ?_
    have H2 : Heap w [] [ownN 1 (.slice A (Nv.dirtyTo d.dirty k).length c) (Nv.dirtyTo d.dirty k).length ((Nv.dirtyTo d.dirty k).map (Value.int .i64)) 3] W := Heap.drops (L := [_]) H
    obtain ⟨b, hb, H3⟩ := own_vec0 H2
    exact ⟨A, b, c, rfl, hb, H3⟩
theorem same_no {xs ys : List Int} {k : Nat} (h : ¬ xs.getD k default = ys.getD k default) : Nv.same xs ys = false := by
  rw [Nv.same, decide_eq_false (fun e => h (by rw [e]))]
theorem same_len {xs ys : List Int} (h : ¬ xs.length = ys.length) : Nv.same xs ys = false := by
  rw [Nv.same, decide_eq_false (fun e => h (by rw [e]))]
theorem rInts (A B : Option Addr) (n n2 c c2 : Nat) (xs ys : List Int) (w : World) (hx : Sees (Value.int .i64) w [] A xs) (hy : Sees (Value.int .i64) w [] B ys) (lx : xs.length = n) (ly : ys.length = n2) (hn : n ≤ 1000000 ∧ n2 ≤ 1000000) :
    Calls Try.prog 90 [.slice A n c, .slice B n2 c2].toArray w fun e w' => e = .returned (.bool (Nv.same xs ys)) ∧ Only [] w w' := by
  have H := Heap.nil w
  by_cases hne : n = n2
  · subst hne
    refine k_in (N := 26) Try.func90 rfl rfl rfl ?_
    refine k_seq ?_
    refine k_rg ?_
    refine s_run rfl rfl (r_as (v := .bool _) rfl) ?_
    refine k_nil ?_
    refine c_norm ?_
    refine k_seq ?_
    refine k_seq ?_
    refine k_rg ?_
    refine s_run rfl rfl (r_mv (v := .slice _ _ _) rfl) ?_
    refine s_run rfl rfl (r_len rfl Try.underlying42) ?_
    refine s_run rfl rfl (r_mv (v := .slice _ _ _) rfl) ?_
    refine s_run rfl rfl (r_len rfl Try.underlying42) ?_
    refine s_run rfl rfl (r_neqF rfl rfl (by omega)) ?_
    refine k_nil ?_
    refine c_norm ?_
    refine k_f rfl ?_
    refine k_skip ?_
    refine c_norm ?_
    refine k_seq ?_
    refine k_seq ?_
    refine k_rg ?_
    refine s_run rfl rfl (r_as (v := .int _ _) rfl) ?_
    refine k_nil ?_
    refine c_norm ?_
    refine k_b ?_
    refine k_loop (fun m f W => ∃ k : Nat, k ≤ n ∧ m = n - k ∧ (∀ i, i < k → xs.getD i default = ys.getD i default) ∧ f 0 = .slice A n c ∧ f 1 = .slice B n c2 ∧ f 5 = .int .i64 k ∧ Heap w [] [] W) n ⟨0, by omega, by omega, by omega, rfl, rfl, rfl, H⟩ ?_
    clear H
    rintro m f W ⟨k, hk, rfl, hall, h0, h1, h2, H⟩
    by_cases hlt : k < n
    · obtain ⟨b, o, rfl, _, hrx⟩ := hx (by omega)
      obtain ⟨b2, o2, rfl, _, hry⟩ := hy (by omega)
      obtain ⟨f, rfl⟩ := live3 h0 h1 h2
      clear h0 h1 h2
      have cx := hrx k _ (getE (by omega))
      have cy := hry k _ (getE (by omega))
      by_cases he : xs.getD k default = ys.getD k default
      · refine k_seq ?_
        refine k_seq ?_
        refine k_rg ?_
        refine s_run rfl rfl (r_mv (v := .int _ _) rfl) ?_
        refine s_run rfl rfl (r_mv (v := .slice _ _ _) rfl) ?_
        refine s_run rfl rfl (r_len rfl Try.underlying42) ?_
        refine s_run rfl rfl (r_lssT rfl rfl (by omega)) ?_
        refine k_nil ?_
        refine c_norm ?_
        refine k_t rfl ?_
        refine k_skip ?_
        refine c_norm ?_
        refine k_seq ?_
        refine k_b ?_
        refine k_seq ?_
        refine k_q mixed (by kernel_rfl) H ?_
        refine q_run rfl rfl (fun _ H => r_mv (v := .slice _ _ _) rfl) ?_
        refine q_run rfl rfl (fun _ H => r_mv (v := .int _ _) rfl) ?_
        refine q_run rfl rfl (fun _ H => r_ix1o rfl rfl rfl (by omega) Try.underlying42 sz3) ?_
        refine q_run rfl rfl (fun _ H => r_lr H rfl cx (by simp) ag3) ?_
        refine q_run rfl rfl (fun _ H => r_mv (v := .slice _ _ _) rfl) ?_
        refine q_run rfl rfl (fun _ H => r_mv (v := .int _ _) rfl) ?_
        refine q_run rfl rfl (fun _ H => r_ix1o rfl rfl rfl (by omega) Try.underlying42 sz3) ?_
        refine q_run rfl rfl (fun _ H => r_lr H rfl cy (by simp) ag3) ?_
        refine q_run rfl rfl (fun _ H => r_neqF rfl rfl (by omega)) ?_
        refine q_nil ?_
        intro _ H'; clear H; have H := H'; clear H'
        refine c_norm ?_
        refine k_f rfl ?_
        refine k_skip ?_
        refine b_norm ?_
        refine c_norm ?_
        refine k_rg ?_
        refine s_run rfl rfl (r_mv (v := .int _ _) rfl) ?_
        refine s_run rfl rfl (r_add rfl rfl (wI (by omega))) ?_
        refine s_run rfl rfl (r_as (v := .int _ _) rfl) ?_
        refine k_nil ?_
        refine c_round ?_
        refine ⟨_, _, ?_, rfl, k + 1, by omega, rfl, fun i hi => ?_, rfl, rfl, rfl, H⟩
        · omega
        · by_cases hik : i = k
          · subst hik; exact he
          · exact hall i (by omega)
      · refine k_seq ?_
        refine k_seq ?_
        refine k_rg ?_
        refine s_run rfl rfl (r_mv (v := .int _ _) rfl) ?_
        refine s_run rfl rfl (r_mv (v := .slice _ _ _) rfl) ?_
        refine s_run rfl rfl (r_len rfl Try.underlying42) ?_
        refine s_run rfl rfl (r_lssT rfl rfl (by omega)) ?_
        refine k_nil ?_
        refine c_norm ?_
        refine k_t rfl ?_
        refine k_skip ?_
        refine c_norm ?_
        refine k_seq ?_
        refine k_b ?_
        refine k_seq ?_
        refine k_q mixed (by kernel_rfl) H ?_
        refine q_run rfl rfl (fun _ H => r_mv (v := .slice _ _ _) rfl) ?_
        refine q_run rfl rfl (fun _ H => r_mv (v := .int _ _) rfl) ?_
        refine q_run rfl rfl (fun _ H => r_ix1o rfl rfl rfl (by omega) Try.underlying42 sz3) ?_
        refine q_run rfl rfl (fun _ H => r_lr H rfl cx (by simp) ag3) ?_
        refine q_run rfl rfl (fun _ H => r_mv (v := .slice _ _ _) rfl) ?_
        refine q_run rfl rfl (fun _ H => r_mv (v := .int _ _) rfl) ?_
        refine q_run rfl rfl (fun _ H => r_ix1o rfl rfl rfl (by omega) Try.underlying42 sz3) ?_
        refine q_run rfl rfl (fun _ H => r_lr H rfl cy (by simp) ag3) ?_
        refine q_run rfl rfl (fun _ H => r_neqT rfl rfl (by omega)) ?_
        refine q_nil ?_
        intro _ H'; clear H; have H := H'; clear H'
        refine c_norm ?_
        refine k_t rfl ?_
        refine k_seq ?_
        refine k_rg ?_
        refine s_run rfl rfl (r_as (v := .bool _) rfl) ?_
        refine k_nil ?_
        refine c_norm ?_
        refine k_ret ?_
        refine b_ret ?_
        refine c_ret ?_
        refine c_ret ?_
        refine b_ret ?_
        refine c_ret ?_
        refine fin1r (v := .bool _) rfl rfl ?_
        exact ⟨by rw [same_no he], H.only⟩
    · obtain ⟨f, rfl⟩ := live3 h0 h1 h2
      clear h0 h1 h2
      obtain rfl : k = n := by omega
      refine k_seq ?_
      refine k_seq ?_
      refine k_rg ?_
      refine s_run rfl rfl (r_mv (v := .int _ _) rfl) ?_
      refine s_run rfl rfl (r_mv (v := .slice _ _ _) rfl) ?_
      refine s_run rfl rfl (r_len rfl Try.underlying42) ?_
      refine s_run rfl rfl (r_lssF rfl rfl (by omega)) ?_
      refine k_nil ?_
      refine c_norm ?_
      refine k_f rfl ?_
      refine k_exit ?_
      refine c_exit ?_
      refine c_exit ?_
      refine b_hit ?_
      refine c_norm ?_
      refine k_seq ?_
      refine k_rg ?_
      refine s_run rfl rfl (r_as (v := .bool _) rfl) ?_
      refine k_nil ?_
      refine c_norm ?_
      refine k_ret ?_
      refine fin1r (v := .bool _) rfl rfl ?_
      exact ⟨by rw [Nv.same, decide_eq_true (all_upto hall lx ly)], H.only⟩
  · refine k_in (N := 26) Try.func90 rfl rfl rfl ?_
    refine k_seq ?_
    refine k_rg ?_
    refine s_run rfl rfl (r_as (v := .bool _) rfl) ?_
    refine k_nil ?_
    refine c_norm ?_
    refine k_seq ?_
    refine k_seq ?_
    refine k_rg ?_
    refine s_run rfl rfl (r_mv (v := .slice _ _ _) rfl) ?_
    refine s_run rfl rfl (r_len rfl Try.underlying42) ?_
    refine s_run rfl rfl (r_mv (v := .slice _ _ _) rfl) ?_
    refine s_run rfl rfl (r_len rfl Try.underlying42) ?_
    refine s_run rfl rfl (r_neqT rfl rfl (by omega)) ?_
    refine k_nil ?_
    refine c_norm ?_
    refine k_t rfl ?_
    refine k_seq ?_
    refine k_rg ?_
    refine s_run rfl rfl (r_as (v := .bool _) rfl) ?_
    refine k_nil ?_
    refine c_norm ?_
    refine k_ret ?_
    refine c_ret ?_
    refine fin1r (v := .bool _) rfl rfl ?_
    exact ⟨by rw [same_len (by omega)], H.only⟩
theorem rSame (A B : Option Addr) (n n2 c c2 : Nat) (xs ys : List Int) (w : World) (hx : Sees (Value.int .u64) w [] A xs) (hy : Sees (Value.int .u64) w [] B ys) (lx : xs.length = n) (ly : ys.length = n2) (hn : n ≤ 1000000 ∧ n2 ≤ 1000000) :
    Calls Try.prog 42 [.slice A n c, .slice B n2 c2].toArray w fun e w' => e = .returned (.bool (Nv.same xs ys)) ∧ Only [] w w' := by
  have H := Heap.nil w
  by_cases hne : n = n2
  · subst hne
    refine k_in (N := 26) Try.func42 rfl rfl rfl ?_
    refine k_seq ?_
    refine k_rg ?_
    refine s_run rfl rfl (r_as (v := .bool _) rfl) ?_
    refine k_nil ?_
    refine c_norm ?_
    refine k_seq ?_
    refine k_seq ?_
    refine k_rg ?_
    refine s_run rfl rfl (r_mv (v := .slice _ _ _) rfl) ?_
    refine s_run rfl rfl (r_len rfl Try.underlying25) ?_
    refine s_run rfl rfl (r_mv (v := .slice _ _ _) rfl) ?_
    refine s_run rfl rfl (r_len rfl Try.underlying25) ?_
    refine s_run rfl rfl (r_neqF rfl rfl (by omega)) ?_
    refine k_nil ?_
    refine c_norm ?_
    refine k_f rfl ?_
    refine k_skip ?_
    refine c_norm ?_
    refine k_seq ?_
    refine k_seq ?_
    refine k_rg ?_
    refine s_run rfl rfl (r_as (v := .int _ _) rfl) ?_
    refine k_nil ?_
    refine c_norm ?_
    refine k_b ?_
    refine k_loop (fun m f W => ∃ k : Nat, k ≤ n ∧ m = n - k ∧ (∀ i, i < k → xs.getD i default = ys.getD i default) ∧ f 0 = .slice A n c ∧ f 1 = .slice B n c2 ∧ f 5 = .int .i64 k ∧ Heap w [] [] W) n ⟨0, by omega, by omega, by omega, rfl, rfl, rfl, H⟩ ?_
    clear H
    rintro m f W ⟨k, hk, rfl, hall, h0, h1, h2, H⟩
    by_cases hlt : k < n
    · obtain ⟨b, o, rfl, _, hrx⟩ := hx (by omega)
      obtain ⟨b2, o2, rfl, _, hry⟩ := hy (by omega)
      obtain ⟨f, rfl⟩ := live3 h0 h1 h2
      clear h0 h1 h2
      have cx := hrx k _ (getE (by omega))
      have cy := hry k _ (getE (by omega))
      by_cases he : xs.getD k default = ys.getD k default
      · refine k_seq ?_
        refine k_seq ?_
        refine k_rg ?_
        refine s_run rfl rfl (r_mv (v := .int _ _) rfl) ?_
        refine s_run rfl rfl (r_mv (v := .slice _ _ _) rfl) ?_
        refine s_run rfl rfl (r_len rfl Try.underlying25) ?_
        refine s_run rfl rfl (r_lssT rfl rfl (by omega)) ?_
        refine k_nil ?_
        refine c_norm ?_
        refine k_t rfl ?_
        refine k_skip ?_
        refine c_norm ?_
        refine k_seq ?_
        refine k_b ?_
        refine k_seq ?_
        refine k_q mixed (by kernel_rfl) H ?_
        refine q_run rfl rfl (fun _ H => r_mv (v := .slice _ _ _) rfl) ?_
        refine q_run rfl rfl (fun _ H => r_mv (v := .int _ _) rfl) ?_
        refine q_run rfl rfl (fun _ H => r_ix1o rfl rfl rfl (by omega) Try.underlying25 sz22) ?_
        refine q_run rfl rfl (fun _ H => r_lr H rfl cx (by simp) ag22) ?_
        refine q_run rfl rfl (fun _ H => r_mv (v := .slice _ _ _) rfl) ?_
        refine q_run rfl rfl (fun _ H => r_mv (v := .int _ _) rfl) ?_
        refine q_run rfl rfl (fun _ H => r_ix1o rfl rfl rfl (by omega) Try.underlying25 sz22) ?_
        refine q_run rfl rfl (fun _ H => r_lr H rfl cy (by simp) ag22) ?_
        refine q_run rfl rfl (fun _ H => r_neqF rfl rfl (by omega)) ?_
        refine q_nil ?_
        intro _ H'; clear H; have H := H'; clear H'
        refine c_norm ?_
        refine k_f rfl ?_
        refine k_skip ?_
        refine b_norm ?_
        refine c_norm ?_
        refine k_rg ?_
        refine s_run rfl rfl (r_mv (v := .int _ _) rfl) ?_
        refine s_run rfl rfl (r_add rfl rfl (wI (by omega))) ?_
        refine s_run rfl rfl (r_as (v := .int _ _) rfl) ?_
        refine k_nil ?_
        refine c_round ?_
        refine ⟨_, _, ?_, rfl, k + 1, by omega, rfl, fun i hi => ?_, rfl, rfl, rfl, H⟩
        · omega
        · by_cases hik : i = k
          · subst hik; exact he
          · exact hall i (by omega)
      · refine k_seq ?_
        refine k_seq ?_
        refine k_rg ?_
        refine s_run rfl rfl (r_mv (v := .int _ _) rfl) ?_
        refine s_run rfl rfl (r_mv (v := .slice _ _ _) rfl) ?_
        refine s_run rfl rfl (r_len rfl Try.underlying25) ?_
        refine s_run rfl rfl (r_lssT rfl rfl (by omega)) ?_
        refine k_nil ?_
        refine c_norm ?_
        refine k_t rfl ?_
        refine k_skip ?_
        refine c_norm ?_
        refine k_seq ?_
        refine k_b ?_
        refine k_seq ?_
        refine k_q mixed (by kernel_rfl) H ?_
        refine q_run rfl rfl (fun _ H => r_mv (v := .slice _ _ _) rfl) ?_
        refine q_run rfl rfl (fun _ H => r_mv (v := .int _ _) rfl) ?_
        refine q_run rfl rfl (fun _ H => r_ix1o rfl rfl rfl (by omega) Try.underlying25 sz22) ?_
        refine q_run rfl rfl (fun _ H => r_lr H rfl cx (by simp) ag22) ?_
        refine q_run rfl rfl (fun _ H => r_mv (v := .slice _ _ _) rfl) ?_
        refine q_run rfl rfl (fun _ H => r_mv (v := .int _ _) rfl) ?_
        refine q_run rfl rfl (fun _ H => r_ix1o rfl rfl rfl (by omega) Try.underlying25 sz22) ?_
        refine q_run rfl rfl (fun _ H => r_lr H rfl cy (by simp) ag22) ?_
        refine q_run rfl rfl (fun _ H => r_neqT rfl rfl (by omega)) ?_
        refine q_nil ?_
        intro _ H'; clear H; have H := H'; clear H'
        refine c_norm ?_
        refine k_t rfl ?_
        refine k_seq ?_
        refine k_rg ?_
        refine s_run rfl rfl (r_as (v := .bool _) rfl) ?_
        refine k_nil ?_
        refine c_norm ?_
        refine k_ret ?_
        refine b_ret ?_
        refine c_ret ?_
        refine c_ret ?_
        refine b_ret ?_
        refine c_ret ?_
        refine fin1r (v := .bool _) rfl rfl ?_
        exact ⟨by rw [same_no he], H.only⟩
    · obtain ⟨f, rfl⟩ := live3 h0 h1 h2
      clear h0 h1 h2
      obtain rfl : k = n := by omega
      refine k_seq ?_
      refine k_seq ?_
      refine k_rg ?_
      refine s_run rfl rfl (r_mv (v := .int _ _) rfl) ?_
      refine s_run rfl rfl (r_mv (v := .slice _ _ _) rfl) ?_
      refine s_run rfl rfl (r_len rfl Try.underlying25) ?_
      refine s_run rfl rfl (r_lssF rfl rfl (by omega)) ?_
      refine k_nil ?_
      refine c_norm ?_
      refine k_f rfl ?_
      refine k_exit ?_
      refine c_exit ?_
      refine c_exit ?_
      refine b_hit ?_
      refine c_norm ?_
      refine k_seq ?_
      refine k_rg ?_
      refine s_run rfl rfl (r_as (v := .bool _) rfl) ?_
      refine k_nil ?_
      refine c_norm ?_
      refine k_ret ?_
      refine fin1r (v := .bool _) rfl rfl ?_
      exact ⟨by rw [Nv.same, decide_eq_true (all_upto hall lx ly)], H.only⟩
  · refine k_in (N := 26) Try.func42 rfl rfl rfl ?_
    refine k_seq ?_
    refine k_rg ?_
    refine s_run rfl rfl (r_as (v := .bool _) rfl) ?_
    refine k_nil ?_
    refine c_norm ?_
    refine k_seq ?_
    refine k_seq ?_
    refine k_rg ?_
    refine s_run rfl rfl (r_mv (v := .slice _ _ _) rfl) ?_
    refine s_run rfl rfl (r_len rfl Try.underlying25) ?_
    refine s_run rfl rfl (r_mv (v := .slice _ _ _) rfl) ?_
    refine s_run rfl rfl (r_len rfl Try.underlying25) ?_
    refine s_run rfl rfl (r_neqT rfl rfl (by omega)) ?_
    refine k_nil ?_
    refine c_norm ?_
    refine k_t rfl ?_
    refine k_seq ?_
    refine k_rg ?_
    refine s_run rfl rfl (r_as (v := .bool _) rfl) ?_
    refine k_nil ?_
    refine c_norm ?_
    refine k_ret ?_
    refine c_ret ?_
    refine fin1r (v := .bool _) rfl rfl ?_
    exact ⟨by rw [same_len (by omega)], H.only⟩
theorem take_part {zs : List Int} {m k : Nat} (hl : zs.length = 8 * m) (hk : k < m) : zs.take (8 * k) ++ Nv.part zs k = zs.take (8 * (k + 1)) := by
  unfold Nv.part
  rw [show 8 * (k + 1) = 8 * k + 8 from by omega, List.take_add]
theorem rAll (A : Option Addr) (m c : Nat) (zs : List Int) (w : World) (hz : Sees (Value.int .u64) w [] A zs) (hl : zs.length = 8 * m) (hm : m ≤ 100000) :
    Calls Try.prog 43 [.slice A m c].toArray w fun e w' => ∃ A' b c', e = .returned (.slice A' (8 * m) c') ∧ (8 * m ≠ 0 → A' = some ⟨b, 0, none⟩) ∧ Heap w [] [vec (Value.int .u64) b zs 22] w' := by
  have H := Heap.nil w
  refine k_in (N := 18) Try.func43 rfl rfl rfl ?_
  refine k_seq ?_
  refine k_rg ?_
  refine s_run rfl rfl (r_as (v := .slice _ _ _) rfl) ?_
  refine k_nil ?_
  refine c_norm ?_
  refine k_seq ?_
  refine k_rg ?_
  refine s_run rfl rfl (r_as (v := .slice _ _ _) rfl) ?_
  refine k_nil ?_
  refine c_norm ?_
  refine k_seq ?_
  refine k_seq ?_
  refine k_rg ?_
  refine s_run rfl rfl (r_as (v := .int _ _) rfl) ?_
  refine k_nil ?_
  refine c_norm ?_
  refine k_b ?_
  refine k_loop (fun q f W => ∃ (k : Nat) (A' : Option Addr) (c' : Nat), k ≤ m ∧ q = m - k ∧ f 0 = .slice A m c ∧ f 3 = .slice A' (8 * k) c' ∧ f 4 = .int .i64 k ∧ Heap w [] [ownN 1 (.slice A' (8 * k) c') (8 * k) ((zs.take (8 * k)).map (Value.int .u64)) 22] W) m ⟨0, none, 0, by omega, rfl, rfl, rfl, rfl, H.own_nil 1 22⟩ ?_
  clear H
  rintro q f W ⟨k, A', c', hk, rfl, h0, h3, h4, H⟩
  by_cases hlt : k < m
  · obtain ⟨b, o, rfl, _, hr⟩ := hz (by omega)
    obtain ⟨f, rfl⟩ := live3 h0 h3 h4
    clear h0 h3 h4
    have hp := reads_part (m := m) (i := k) hr hl hlt
    refine k_seq ?_
    refine k_seq ?_
    refine k_rg ?_
    refine s_run rfl rfl (r_mv (v := .int _ _) rfl) ?_
    refine s_run rfl rfl (r_mv (v := .slice _ _ _) rfl) ?_
    refine s_run rfl rfl (r_len rfl Try.underlying52) ?_
    refine s_run rfl rfl (r_lssT rfl rfl (by omega)) ?_
    refine k_nil ?_
    refine c_norm ?_
    refine k_t rfl ?_
    refine k_skip ?_
    refine c_norm ?_
    refine k_seq ?_
    refine k_b ?_
    refine k_rg ?_
    refine s_run rfl rfl (r_mv (v := .slice _ _ _) rfl) ?_
    refine s_run rfl rfl (r_mv (v := .slice _ _ _) rfl) ?_
    refine s_run rfl rfl (r_mv (v := .int _ _) rfl) ?_
    refine s_run rfl rfl (r_ix rfl rfl rfl (by omega) Try.underlying52 sz124) ?_
    refine s_run rfl rfl (r_sla rfl Try.underlying124 sz22 (by omega)) ?_
    refine s_apps (enc := (Value.int .u64))  H 0 rfl rfl rfl rfl ((fun _ => ⟨_, _, rfl, by simp, hp⟩)) (Nv.length_part (by omega)) (fun _ => rfl) (by omega) Try.underlying25 inf22 rfl ?_
    intro A2 c2 _ _ H'; simp only [List.set_cons_zero, List.set_cons_succ, List.take_succ_cons, List.take_zero, List.drop_succ_cons, List.drop_zero, List.cons_append, List.nil_append, List.append_nil, List.length_cons, List.length_nil, Nat.reduceAdd] at H'; clear H; have H := H'; clear H'
    refine s_run rfl rfl (r_as (v := .slice _ _ _) rfl) ?_
    refine k_nil ?_
    refine b_norm ?_
    refine c_norm ?_
    refine k_rg ?_
    refine s_run rfl rfl (r_mv (v := .int _ _) rfl) ?_
    refine s_run rfl rfl (r_add rfl rfl (wI (by omega))) ?_
    refine s_run rfl rfl (r_as (v := .int _ _) rfl) ?_
    refine k_nil ?_
    refine c_round ?_
    rw [take_part hl hlt, show 8 * k + 8 = 8 * (k + 1) from by omega] at H
    refine ⟨_, _, ?_, rfl, k + 1, A2, c2, by omega, rfl, rfl, ?_, rfl, H⟩
    · omega
    · rw [show 8 * (k + 1) = 8 * k + 8 from by omega]; rfl
  · obtain ⟨f, rfl⟩ := live3 h0 h3 h4
    clear h0 h3 h4
    obtain rfl : k = m := by omega
    refine k_seq ?_
    refine k_seq ?_
    refine k_rg ?_
    refine s_run rfl rfl (r_mv (v := .int _ _) rfl) ?_
    refine s_run rfl rfl (r_mv (v := .slice _ _ _) rfl) ?_
    refine s_run rfl rfl (r_len rfl Try.underlying52) ?_
    refine s_run rfl rfl (r_lssF rfl rfl (by omega)) ?_
    refine k_nil ?_
    refine c_norm ?_
    refine k_f rfl ?_
    refine k_exit ?_
    refine c_exit ?_
    refine c_exit ?_
    refine b_hit ?_
    refine c_norm ?_
    refine k_seq ?_
    refine k_rg ?_
    refine s_run rfl rfl (r_mv (v := .slice _ _ _) rfl) ?_
    refine s_run rfl rfl (r_as (v := .slice _ _ _) rfl) ?_
    refine k_nil ?_
    refine c_norm ?_
    refine k_ret ?_
    refine fin1r (v := .slice _ _ _) rfl rfl ?_
    rw [List.take_of_length_le (by omega)] at H
    obtain ⟨b, hb, H3⟩ := own_vec0 H
    exact ⟨A', b, c', rfl, hb, H3⟩
end Go.Proofs.Ytmekhdclnhhhbaa
