/- Clone, load, New, Load, All, Dirty. -/
import Derived.Test.YtmekhdclnhhhbaaNvm4
namespace Go.Proofs.Ytmekhdclnhhhbaa
open Go.RowKit
set_option linter.unusedSimpArgs false
set_option linter.unusedVariables false
theorem nClone (A : Addr) (n c : Nat) (zs : List Int) (w : World) (hz : Sees (Value.int .u64) w [] (some A) zs) (hl : zs.length = n) (hn : n ≤ 1000000) :
    Calls Try.prog 79 [.slice (some A) n c].toArray w fun e w' => ∃ b c', e = .returned (.slice (some ⟨b, 0, none⟩) n c') ∧ (n ≤ c' ∧ c' ≤ 9223372036854775807) ∧ Heap w [] [vec (Value.int .u64) b zs 22] w' := by
  have H := Heap.nil w
  refine k_in (N := 8) Try.func79 rfl rfl rfl ?_
  refine k_seq ?_
  refine k_rg ?_
  refine s_run rfl rfl (r_as (v := .slice _ _ _) rfl) ?_
  refine k_nil ?_
  refine c_norm ?_
  refine k_seq ?_
  refine k_seq ?_
  refine k_rg ?_
  refine s_run rfl rfl (r_mv (v := .slice _ _ _) rfl) ?_
  refine s_run rfl rfl (r_slnilF rfl rfl Try.underlying25) ?_
  refine k_nil ?_
  refine c_norm ?_
  refine k_f rfl ?_
  refine k_skip ?_
  refine c_norm ?_
  refine k_seq ?_
  refine k_rg ?_
  refine s_bs0 1 (by omega) H rfl Try.underlying25 inf22 ?_
  intro _ _ H'; clear H; have H := H'; clear H'
  refine s_run rfl rfl (r_mv (v := .slice _ _ _) rfl) ?_
  refine s_apps (enc := (Value.int .u64)) (xs := []) H 0 rfl rfl rfl rfl (hz) (hl) (fun _ => rfl) (by omega) Try.underlying25 inf22 rfl ?_
  intro A' c' _ hA H'; simp only [List.set_cons_zero, List.set_cons_succ, List.take_succ_cons, List.take_zero, List.drop_succ_cons, List.drop_zero, List.cons_append, List.nil_append, List.append_nil, List.length_cons, List.length_nil, Nat.reduceAdd] at H'; clear H; have H := H'; clear H'
  refine s_run rfl rfl (r_as (v := .slice _ _ _) rfl) ?_
  refine k_nil ?_
  refine c_norm ?_
  refine k_ret ?_
  refine fin1r (v := .slice _ _ _) rfl rfl ?_
  obtain ⟨b, rfl⟩ := hA (by simp)
  rw [Nat.zero_add] at H
  refine ⟨b, c', by rw [Nat.zero_add], ?_⟩
  by_cases h0 : 0 < n
  · obtain ⟨b', c2, e1, e2, e3, H2⟩ := own_vec H h0
    injection e1 with e4 _ e5
    injection e4 with e4
    injection e4 with e4
    subst e4; subst e5
    unfold maxLen at e3
    exact ⟨⟨e2, e3⟩, H2⟩
  · obtain rfl : n = 0 := by omega
    obtain rfl : zs = [] := List.eq_nil_of_length_eq_zero hl
    have ho := H.own_get 0 rfl
    have hb : (0 ≤ c' ∧ c' ≤ 9223372036854775807) := by
      rcases ho.2 with ⟨e, _⟩ | ⟨q, cap, cur, e, _, _, _, hcm, _⟩
      · cases e
      · injection e with _ _ e; subst e; unfold maxLen at hcm; omega
    exact ⟨hb, fun E hE => by (rw [List.mem_singleton.1 hE]; exact fun h => absurd rfl h), by simp [ids, vec], by simp [ids, vec], H.only⟩
theorem nload (b c m : Nat) (ws : List Int) (w : World) (hE : Ents [vec (Value.int .u64) b ws 22] w) (hl : ws.length = 8 * m) (hm : m ≤ 100000) (hc : 8 * m ≤ c ∧ c ≤ 9223372036854775807) :
    Calls Try.prog 65 [.slice (some ⟨b, 0, none⟩) (8 * m) c].toArray w fun e w' => ∃ g, e = .returned (ptr g.p) ∧ GOk g m ∧ Heap w (ids [vec (Value.int .u64) b ws 22]) (devL g (Nv.load ws m)) w' := by
  have H := Heap.start hE
  generalize hF : ids [vec (Value.int .u64) b ws 22] = F at H ⊢
  refine k_in (N := 19) Try.func65 rfl rfl rfl ?_
  refine k_seq ?_
  refine k_rg ?_
  refine s_run rfl rfl (r_as (v := .pointer _) rfl) ?_
  refine k_nil ?_
  refine c_norm ?_
  refine k_seq ?_
  refine k_rg ?_
  refine s_run rfl rfl (r_mv (v := .slice _ _ _) rfl) ?_
  refine s_run rfl rfl (r_len rfl Try.underlying25) ?_
  refine s_run rfl rfl (r_quo rfl rfl (by omega) (wI (by omega))) ?_
  refine s_run rfl rfl (r_as (v := .int _ _) rfl) ?_
  refine k_nil ?_
  refine c_norm ?_
  refine k_seq ?_
  refine k_cut (fun f' W' => ∃ p bc cc bf bd bp, (8 * m ≤ cc ∧ cc ≤ 9223372036854775807) ∧ f' 2 = ptr p ∧ Heap w F [blk p [.slice (some ⟨b, 0, none⟩) (8 * m) c, .slice (some ⟨bc, 0, none⟩) (8 * m) cc, .slice (some ⟨bf, 0, none⟩) (8 * m) (8 * m), .slice (some ⟨bd, 0, none⟩) m m, .slice (some ⟨bp, 0, none⟩) m m, .int .i64 0, .int .i64 0, .bool false, .bool false] 114, vec Value.bool bp (List.replicate m false) 4, vec Value.bool bd (List.replicate m false) 4, vec (Value.int .u64) bf (List.replicate (8 * m) 0) 22, vec (Value.int .u64) bc ws 22, vec (Value.int .u64) b ws 22] W') ?_ ?_
  · have HR := H; clear H; have H := HR.tree; refine k_tr mixed ?_
    refine t_take 0 rfl (by kernel_rfl) (by kernel_rfl) (by kernel_rfl) rfl (fun _ _ _ _ h => nomatch h.1) rfl (fun _ hS => r_mv (v := .slice _ _ _) rfl) H.only ?_
    refine t_take 1 rfl (by kernel_rfl) (by kernel_rfl) (by kernel_rfl) rfl (fun _ _ _ _ h => nomatch h.1) rfl (fun _ hS => r_mv (v := .slice _ _ _) rfl) H.only ?_
    refine t_take 3 rfl (by kernel_rfl) (by kernel_rfl) (by kernel_rfl) rfl (fun _ _ _ _ h => nomatch h.1) rfl (fun _ hS => r_mv (v := .slice _ _ _) rfl) H.only ?_
    refine t_take 4 rfl (by kernel_rfl) (by kernel_rfl) (by kernel_rfl) rfl (fun _ _ _ _ h => nomatch h.1) rfl (fun _ hS => r_len rfl Try.underlying25) H.only ?_
    refine t_take 6 rfl (by kernel_rfl) (by kernel_rfl) (by kernel_rfl) rfl (fun _ _ _ _ h => nomatch h.1) rfl (fun _ hS => r_mv (v := .int _ _) rfl) H.only ?_
    refine t_take 8 rfl (by kernel_rfl) (by kernel_rfl) (by kernel_rfl) rfl (fun _ _ _ _ h => nomatch h.1) rfl (fun _ hS => r_mv (v := .int _ _) rfl) H.only ?_
    refine t_up4 2 5 7 9 (by kernel_rfl) ?_ ?_ ?_ ?_
    · refine up_mk rfl ?_
      refine s_call rfl (nClone _ _ _ ws _ (fun _ => ⟨_, _, rfl, by simp, (HR.same H.only).reads0 0 rfl⟩) (by omega) (by omega)) (ca79 rfl) ?_
      rintro e W1 ⟨bc, cc, rfl, hcc, H'⟩
      refine ⟨_, rfl, ?_⟩
      have H := H.more H'; clear H'
      refine k_nil ?_
      refine t_on H.only ?_
      refine t_up3 5 7 9 (by kernel_rfl) ?_ ?_ ?_
      · refine up_mk rfl ?_
        refine s_mk (Value.int .u64) 0 (m := (8 * m)) H rfl rfl rfl (by omega) (by omega) (by omega) Try.underlying25 inf22 rfl ?_
        intro bf _ H'; clear H; have H := H'; clear H'
        refine k_nil ?_
        refine t_on H.only ?_
        refine t_up2 7 9 (by kernel_rfl) ?_ ?_
        · refine up_mk rfl ?_
          refine s_mk Value.bool false (m := m) H rfl rfl rfl (by omega) (by omega) (by omega) Try.underlying53 inf4 rfl ?_
          intro bd _ H'; clear H; have H := H'; clear H'
          refine k_nil ?_
          refine t_on H.only ?_
          refine t_up1 9 (by kernel_rfl) ?_
          refine up_mk rfl ?_
          refine s_mk Value.bool false (m := m) H rfl rfl rfl (by omega) (by omega) (by omega) Try.underlying53 inf4 rfl ?_
          intro bp _ H'; clear H; have H := H'; clear H'
          refine k_nil ?_
          refine t_on H.only ?_
          refine t_take 10 rfl (by kernel_rfl) (by kernel_rfl) (by kernel_rfl) rfl (fun _ _ _ _ h => nomatch h.1) rfl (fun _ hS => r_bd (bd114_0_1_2_3_4 _ _ _ _ _ _ _ _ _ _ _ _ _ _ _) rfl) H.only ?_
          refine t_up1 11 (by kernel_rfl) ?_
          refine up_mk rfl ?_
          refine s_box H rfl rfl ?_
          intro p18 _ H'; clear H; have H := H'; clear H'
          refine k_nil ?_
          refine t_on H.only ?_
          refine t_take 12 rfl (by kernel_rfl) (by kernel_rfl) (by kernel_rfl) rfl (fun _ _ _ _ h => nomatch h.1) rfl (fun _ hS => r_as (v := .pointer _) rfl) H.only ?_
          refine t_done (by kernel_rfl) ?_
          have H := HR.more H; clear HR; simp only [List.cons_append, List.nil_append] at H
          refine k_met ?_
          exact ⟨_, _, _, _, _, _, hcc, rfl, H⟩
        · refine up_mk rfl ?_
          refine s_mk Value.bool false (m := m) H rfl rfl rfl (by omega) (by omega) (by omega) Try.underlying53 inf4 rfl ?_
          intro bp _ H'; clear H; have H := H'; clear H'
          refine k_nil ?_
          refine t_on H.only ?_
          refine t_up1 7 (by kernel_rfl) ?_
          refine up_mk rfl ?_
          refine s_mk Value.bool false (m := m) H rfl rfl rfl (by omega) (by omega) (by omega) Try.underlying53 inf4 rfl ?_
          intro bd _ H'; clear H; have H := H'; clear H'
          refine k_nil ?_
          refine t_on H.only ?_
          refine t_take 10 rfl (by kernel_rfl) (by kernel_rfl) (by kernel_rfl) rfl (fun _ _ _ _ h => nomatch h.1) rfl (fun _ hS => r_bd (bd114_0_1_2_3_4 _ _ _ _ _ _ _ _ _ _ _ _ _ _ _) rfl) H.only ?_
          refine t_up1 11 (by kernel_rfl) ?_
          refine up_mk rfl ?_
          refine s_box H rfl rfl ?_
          intro p18 _ H'; clear H; have H := H'; clear H'
          refine k_nil ?_
          refine t_on H.only ?_
          refine t_take 12 rfl (by kernel_rfl) (by kernel_rfl) (by kernel_rfl) rfl (fun _ _ _ _ h => nomatch h.1) rfl (fun _ hS => r_as (v := .pointer _) rfl) H.only ?_
          refine t_done (by kernel_rfl) ?_
          have H' := H.pick 4 rfl; simp only [List.eraseIdx_cons_succ, List.eraseIdx_cons_zero] at H'; clear H; have H := H'; clear H'
          have H' := H.pick 4 rfl; simp only [List.eraseIdx_cons_succ, List.eraseIdx_cons_zero] at H'; clear H; have H := H'; clear H'
          have H' := H.pick 3 rfl; simp only [List.eraseIdx_cons_succ, List.eraseIdx_cons_zero] at H'; clear H; have H := H'; clear H'
          have H' := H.pick 4 rfl; simp only [List.eraseIdx_cons_succ, List.eraseIdx_cons_zero] at H'; clear H; have H := H'; clear H'
          have H' := H.pick 4 rfl; simp only [List.eraseIdx_cons_succ, List.eraseIdx_cons_zero] at H'; clear H; have H := H'; clear H'
          have H := HR.more H; clear HR; simp only [List.cons_append, List.nil_append] at H
          refine k_met ?_
          exact ⟨_, _, _, _, _, _, hcc, rfl, H⟩
      · refine up_mk rfl ?_
        refine s_mk Value.bool false (m := m) H rfl rfl rfl (by omega) (by omega) (by omega) Try.underlying53 inf4 rfl ?_
        intro bd _ H'; clear H; have H := H'; clear H'
        refine k_nil ?_
        refine t_on H.only ?_
        refine t_up2 5 9 (by kernel_rfl) ?_ ?_
        · refine up_mk rfl ?_
          refine s_mk (Value.int .u64) 0 (m := (8 * m)) H rfl rfl rfl (by omega) (by omega) (by omega) Try.underlying25 inf22 rfl ?_
          intro bf _ H'; clear H; have H := H'; clear H'
          refine k_nil ?_
          refine t_on H.only ?_
          refine t_up1 9 (by kernel_rfl) ?_
          refine up_mk rfl ?_
          refine s_mk Value.bool false (m := m) H rfl rfl rfl (by omega) (by omega) (by omega) Try.underlying53 inf4 rfl ?_
          intro bp _ H'; clear H; have H := H'; clear H'
          refine k_nil ?_
          refine t_on H.only ?_
          refine t_take 10 rfl (by kernel_rfl) (by kernel_rfl) (by kernel_rfl) rfl (fun _ _ _ _ h => nomatch h.1) rfl (fun _ hS => r_bd (bd114_0_1_2_3_4 _ _ _ _ _ _ _ _ _ _ _ _ _ _ _) rfl) H.only ?_
          refine t_up1 11 (by kernel_rfl) ?_
          refine up_mk rfl ?_
          refine s_box H rfl rfl ?_
          intro p18 _ H'; clear H; have H := H'; clear H'
          refine k_nil ?_
          refine t_on H.only ?_
          refine t_take 12 rfl (by kernel_rfl) (by kernel_rfl) (by kernel_rfl) rfl (fun _ _ _ _ h => nomatch h.1) rfl (fun _ hS => r_as (v := .pointer _) rfl) H.only ?_
          refine t_done (by kernel_rfl) ?_
          have H' := H.pick 4 rfl; simp only [List.eraseIdx_cons_succ, List.eraseIdx_cons_zero] at H'; clear H; have H := H'; clear H'
          have H' := H.pick 3 rfl; simp only [List.eraseIdx_cons_succ, List.eraseIdx_cons_zero] at H'; clear H; have H := H'; clear H'
          have H' := H.pick 4 rfl; simp only [List.eraseIdx_cons_succ, List.eraseIdx_cons_zero] at H'; clear H; have H := H'; clear H'
          have H' := H.pick 4 rfl; simp only [List.eraseIdx_cons_succ, List.eraseIdx_cons_zero] at H'; clear H; have H := H'; clear H'
          have H' := H.pick 4 rfl; simp only [List.eraseIdx_cons_succ, List.eraseIdx_cons_zero] at H'; clear H; have H := H'; clear H'
          have H := HR.more H; clear HR; simp only [List.cons_append, List.nil_append] at H
          refine k_met ?_
          exact ⟨_, _, _, _, _, _, hcc, rfl, H⟩
        · refine up_mk rfl ?_
          refine s_mk Value.bool false (m := m) H rfl rfl rfl (by omega) (by omega) (by omega) Try.underlying53 inf4 rfl ?_
          intro bp _ H'; clear H; have H := H'; clear H'
          refine k_nil ?_
          refine t_on H.only ?_
          refine t_up1 5 (by kernel_rfl) ?_
          refine up_mk rfl ?_
          refine s_mk (Value.int .u64) 0 (m := (8 * m)) H rfl rfl rfl (by omega) (by omega) (by omega) Try.underlying25 inf22 rfl ?_
          intro bf _ H'; clear H; have H := H'; clear H'
          refine k_nil ?_
          refine t_on H.only ?_
          refine t_take 10 rfl (by kernel_rfl) (by kernel_rfl) (by kernel_rfl) rfl (fun _ _ _ _ h => nomatch h.1) rfl (fun _ hS => r_bd (bd114_0_1_2_3_4 _ _ _ _ _ _ _ _ _ _ _ _ _ _ _) rfl) H.only ?_
          refine t_up1 11 (by kernel_rfl) ?_
          refine up_mk rfl ?_
          refine s_box H rfl rfl ?_
          intro p18 _ H'; clear H; have H := H'; clear H'
          refine k_nil ?_
          refine t_on H.only ?_
          refine t_take 12 rfl (by kernel_rfl) (by kernel_rfl) (by kernel_rfl) rfl (fun _ _ _ _ h => nomatch h.1) rfl (fun _ hS => r_as (v := .pointer _) rfl) H.only ?_
          refine t_done (by kernel_rfl) ?_
          have H' := H.pick 4 rfl; simp only [List.eraseIdx_cons_succ, List.eraseIdx_cons_zero] at H'; clear H; have H := H'; clear H'
          have H' := H.pick 2 rfl; simp only [List.eraseIdx_cons_succ, List.eraseIdx_cons_zero] at H'; clear H; have H := H'; clear H'
          have H' := H.pick 4 rfl; simp only [List.eraseIdx_cons_succ, List.eraseIdx_cons_zero] at H'; clear H; have H := H'; clear H'
          have H' := H.pick 4 rfl; simp only [List.eraseIdx_cons_succ, List.eraseIdx_cons_zero] at H'; clear H; have H := H'; clear H'
          have H' := H.pick 4 rfl; simp only [List.eraseIdx_cons_succ, List.eraseIdx_cons_zero] at H'; clear H; have H := H'; clear H'
          have H := HR.more H; clear HR; simp only [List.cons_append, List.nil_append] at H
          refine k_met ?_
          exact ⟨_, _, _, _, _, _, hcc, rfl, H⟩
      · refine up_mk rfl ?_
        refine s_mk Value.bool false (m := m) H rfl rfl rfl (by omega) (by omega) (by omega) Try.underlying53 inf4 rfl ?_
        intro bp _ H'; clear H; have H := H'; clear H'
        refine k_nil ?_
        refine t_on H.only ?_
        refine t_up2 5 7 (by kernel_rfl) ?_ ?_
        · refine up_mk rfl ?_
          refine s_mk (Value.int .u64) 0 (m := (8 * m)) H rfl rfl rfl (by omega) (by omega) (by omega) Try.underlying25 inf22 rfl ?_
          intro bf _ H'; clear H; have H := H'; clear H'
          refine k_nil ?_
          refine t_on H.only ?_
          refine t_up1 7 (by kernel_rfl) ?_
          refine up_mk rfl ?_
          refine s_mk Value.bool false (m := m) H rfl rfl rfl (by omega) (by omega) (by omega) Try.underlying53 inf4 rfl ?_
          intro bd _ H'; clear H; have H := H'; clear H'
          refine k_nil ?_
          refine t_on H.only ?_
          refine t_take 10 rfl (by kernel_rfl) (by kernel_rfl) (by kernel_rfl) rfl (fun _ _ _ _ h => nomatch h.1) rfl (fun _ hS => r_bd (bd114_0_1_2_3_4 _ _ _ _ _ _ _ _ _ _ _ _ _ _ _) rfl) H.only ?_
          refine t_up1 11 (by kernel_rfl) ?_
          refine up_mk rfl ?_
          refine s_box H rfl rfl ?_
          intro p18 _ H'; clear H; have H := H'; clear H'
          refine k_nil ?_
          refine t_on H.only ?_
          refine t_take 12 rfl (by kernel_rfl) (by kernel_rfl) (by kernel_rfl) rfl (fun _ _ _ _ h => nomatch h.1) rfl (fun _ hS => r_as (v := .pointer _) rfl) H.only ?_
          refine t_done (by kernel_rfl) ?_
          have H' := H.pick 4 rfl; simp only [List.eraseIdx_cons_succ, List.eraseIdx_cons_zero] at H'; clear H; have H := H'; clear H'
          have H' := H.pick 3 rfl; simp only [List.eraseIdx_cons_succ, List.eraseIdx_cons_zero] at H'; clear H; have H := H'; clear H'
          have H' := H.pick 3 rfl; simp only [List.eraseIdx_cons_succ, List.eraseIdx_cons_zero] at H'; clear H; have H := H'; clear H'
          have H' := H.pick 4 rfl; simp only [List.eraseIdx_cons_succ, List.eraseIdx_cons_zero] at H'; clear H; have H := H'; clear H'
          have H' := H.pick 4 rfl; simp only [List.eraseIdx_cons_succ, List.eraseIdx_cons_zero] at H'; clear H; have H := H'; clear H'
          have H := HR.more H; clear HR; simp only [List.cons_append, List.nil_append] at H
          refine k_met ?_
          exact ⟨_, _, _, _, _, _, hcc, rfl, H⟩
        · refine up_mk rfl ?_
          refine s_mk Value.bool false (m := m) H rfl rfl rfl (by omega) (by omega) (by omega) Try.underlying53 inf4 rfl ?_
          intro bd _ H'; clear H; have H := H'; clear H'
          refine k_nil ?_
          refine t_on H.only ?_
          refine t_up1 5 (by kernel_rfl) ?_
          refine up_mk rfl ?_
          refine s_mk (Value.int .u64) 0 (m := (8 * m)) H rfl rfl rfl (by omega) (by omega) (by omega) Try.underlying25 inf22 rfl ?_
          intro bf _ H'; clear H; have H := H'; clear H'
          refine k_nil ?_
          refine t_on H.only ?_
          refine t_take 10 rfl (by kernel_rfl) (by kernel_rfl) (by kernel_rfl) rfl (fun _ _ _ _ h => nomatch h.1) rfl (fun _ hS => r_bd (bd114_0_1_2_3_4 _ _ _ _ _ _ _ _ _ _ _ _ _ _ _) rfl) H.only ?_
          refine t_up1 11 (by kernel_rfl) ?_
          refine up_mk rfl ?_
          refine s_box H rfl rfl ?_
          intro p18 _ H'; clear H; have H := H'; clear H'
          refine k_nil ?_
          refine t_on H.only ?_
          refine t_take 12 rfl (by kernel_rfl) (by kernel_rfl) (by kernel_rfl) rfl (fun _ _ _ _ h => nomatch h.1) rfl (fun _ hS => r_as (v := .pointer _) rfl) H.only ?_
          refine t_done (by kernel_rfl) ?_
          have H' := H.pick 4 rfl; simp only [List.eraseIdx_cons_succ, List.eraseIdx_cons_zero] at H'; clear H; have H := H'; clear H'
          have H' := H.pick 2 rfl; simp only [List.eraseIdx_cons_succ, List.eraseIdx_cons_zero] at H'; clear H; have H := H'; clear H'
          have H' := H.pick 3 rfl; simp only [List.eraseIdx_cons_succ, List.eraseIdx_cons_zero] at H'; clear H; have H := H'; clear H'
          have H' := H.pick 4 rfl; simp only [List.eraseIdx_cons_succ, List.eraseIdx_cons_zero] at H'; clear H; have H := H'; clear H'
          have H' := H.pick 4 rfl; simp only [List.eraseIdx_cons_succ, List.eraseIdx_cons_zero] at H'; clear H; have H := H'; clear H'
          have H := HR.more H; clear HR; simp only [List.cons_append, List.nil_append] at H
          refine k_met ?_
          exact ⟨_, _, _, _, _, _, hcc, rfl, H⟩
    · refine up_mk rfl ?_
      refine s_mk (Value.int .u64) 0 (m := (8 * m)) H rfl rfl rfl (by omega) (by omega) (by omega) Try.underlying25 inf22 rfl ?_
      intro bf _ H'; clear H; have H := H'; clear H'
      refine k_nil ?_
      refine t_on H.only ?_
      refine t_up3 2 7 9 (by kernel_rfl) ?_ ?_ ?_
      · refine up_mk rfl ?_
        refine s_call rfl (nClone _ _ _ ws _ (fun _ => ⟨_, _, rfl, by simp, (HR.same H.only).reads0 0 rfl⟩) (by omega) (by omega)) (ca79 rfl) ?_
        rintro e W1 ⟨bc, cc, rfl, hcc, H'⟩
        refine ⟨_, rfl, ?_⟩
        have H := H.more H'; clear H'
        refine k_nil ?_
        refine t_on H.only ?_
        refine t_up2 7 9 (by kernel_rfl) ?_ ?_
        · refine up_mk rfl ?_
          refine s_mk Value.bool false (m := m) H rfl rfl rfl (by omega) (by omega) (by omega) Try.underlying53 inf4 rfl ?_
          intro bd _ H'; clear H; have H := H'; clear H'
          refine k_nil ?_
          refine t_on H.only ?_
          refine t_up1 9 (by kernel_rfl) ?_
          refine up_mk rfl ?_
          refine s_mk Value.bool false (m := m) H rfl rfl rfl (by omega) (by omega) (by omega) Try.underlying53 inf4 rfl ?_
          intro bp _ H'; clear H; have H := H'; clear H'
          refine k_nil ?_
          refine t_on H.only ?_
          refine t_take 10 rfl (by kernel_rfl) (by kernel_rfl) (by kernel_rfl) rfl (fun _ _ _ _ h => nomatch h.1) rfl (fun _ hS => r_bd (bd114_0_1_2_3_4 _ _ _ _ _ _ _ _ _ _ _ _ _ _ _) rfl) H.only ?_
          refine t_up1 11 (by kernel_rfl) ?_
          refine up_mk rfl ?_
          refine s_box H rfl rfl ?_
          intro p18 _ H'; clear H; have H := H'; clear H'
          refine k_nil ?_
          refine t_on H.only ?_
          refine t_take 12 rfl (by kernel_rfl) (by kernel_rfl) (by kernel_rfl) rfl (fun _ _ _ _ h => nomatch h.1) rfl (fun _ hS => r_as (v := .pointer _) rfl) H.only ?_
          refine t_done (by kernel_rfl) ?_
          have H' := H.pick 3 rfl; simp only [List.eraseIdx_cons_succ, List.eraseIdx_cons_zero] at H'; clear H; have H := H'; clear H'
          have H' := H.pick 4 rfl; simp only [List.eraseIdx_cons_succ, List.eraseIdx_cons_zero] at H'; clear H; have H := H'; clear H'
          have H' := H.pick 4 rfl; simp only [List.eraseIdx_cons_succ, List.eraseIdx_cons_zero] at H'; clear H; have H := H'; clear H'
          have H' := H.pick 4 rfl; simp only [List.eraseIdx_cons_succ, List.eraseIdx_cons_zero] at H'; clear H; have H := H'; clear H'
          have H' := H.pick 4 rfl; simp only [List.eraseIdx_cons_succ, List.eraseIdx_cons_zero] at H'; clear H; have H := H'; clear H'
          have H := HR.more H; clear HR; simp only [List.cons_append, List.nil_append] at H
          refine k_met ?_
          exact ⟨_, _, _, _, _, _, hcc, rfl, H⟩
        · refine up_mk rfl ?_
          refine s_mk Value.bool false (m := m) H rfl rfl rfl (by omega) (by omega) (by omega) Try.underlying53 inf4 rfl ?_
          intro bp _ H'; clear H; have H := H'; clear H'
          refine k_nil ?_
          refine t_on H.only ?_
          refine t_up1 7 (by kernel_rfl) ?_
          refine up_mk rfl ?_
          refine s_mk Value.bool false (m := m) H rfl rfl rfl (by omega) (by omega) (by omega) Try.underlying53 inf4 rfl ?_
          intro bd _ H'; clear H; have H := H'; clear H'
          refine k_nil ?_
          refine t_on H.only ?_
          refine t_take 10 rfl (by kernel_rfl) (by kernel_rfl) (by kernel_rfl) rfl (fun _ _ _ _ h => nomatch h.1) rfl (fun _ hS => r_bd (bd114_0_1_2_3_4 _ _ _ _ _ _ _ _ _ _ _ _ _ _ _) rfl) H.only ?_
          refine t_up1 11 (by kernel_rfl) ?_
          refine up_mk rfl ?_
          refine s_box H rfl rfl ?_
          intro p18 _ H'; clear H; have H := H'; clear H'
          refine k_nil ?_
          refine t_on H.only ?_
          refine t_take 12 rfl (by kernel_rfl) (by kernel_rfl) (by kernel_rfl) rfl (fun _ _ _ _ h => nomatch h.1) rfl (fun _ hS => r_as (v := .pointer _) rfl) H.only ?_
          refine t_done (by kernel_rfl) ?_
          have H' := H.pick 3 rfl; simp only [List.eraseIdx_cons_succ, List.eraseIdx_cons_zero] at H'; clear H; have H := H'; clear H'
          have H' := H.pick 4 rfl; simp only [List.eraseIdx_cons_succ, List.eraseIdx_cons_zero] at H'; clear H; have H := H'; clear H'
          have H' := H.pick 3 rfl; simp only [List.eraseIdx_cons_succ, List.eraseIdx_cons_zero] at H'; clear H; have H := H'; clear H'
          have H' := H.pick 4 rfl; simp only [List.eraseIdx_cons_succ, List.eraseIdx_cons_zero] at H'; clear H; have H := H'; clear H'
          have H' := H.pick 4 rfl; simp only [List.eraseIdx_cons_succ, List.eraseIdx_cons_zero] at H'; clear H; have H := H'; clear H'
          have H := HR.more H; clear HR; simp only [List.cons_append, List.nil_append] at H
          refine k_met ?_
          exact ⟨_, _, _, _, _, _, hcc, rfl, H⟩
      · refine up_mk rfl ?_
        refine s_mk Value.bool false (m := m) H rfl rfl rfl (by omega) (by omega) (by omega) Try.underlying53 inf4 rfl ?_
        intro bd _ H'; clear H; have H := H'; clear H'
        refine k_nil ?_
        refine t_on H.only ?_
        refine t_up2 2 9 (by kernel_rfl) ?_ ?_
        · refine up_mk rfl ?_
          refine s_call rfl (nClone _ _ _ ws _ (fun _ => ⟨_, _, rfl, by simp, (HR.same H.only).reads0 0 rfl⟩) (by omega) (by omega)) (ca79 rfl) ?_
          rintro e W1 ⟨bc, cc, rfl, hcc, H'⟩
          refine ⟨_, rfl, ?_⟩
          have H := H.more H'; clear H'
          refine k_nil ?_
          refine t_on H.only ?_
          refine t_up1 9 (by kernel_rfl) ?_
          refine up_mk rfl ?_
          refine s_mk Value.bool false (m := m) H rfl rfl rfl (by omega) (by omega) (by omega) Try.underlying53 inf4 rfl ?_
          intro bp _ H'; clear H; have H := H'; clear H'
          refine k_nil ?_
          refine t_on H.only ?_
          refine t_take 10 rfl (by kernel_rfl) (by kernel_rfl) (by kernel_rfl) rfl (fun _ _ _ _ h => nomatch h.1) rfl (fun _ hS => r_bd (bd114_0_1_2_3_4 _ _ _ _ _ _ _ _ _ _ _ _ _ _ _) rfl) H.only ?_
          refine t_up1 11 (by kernel_rfl) ?_
          refine up_mk rfl ?_
          refine s_box H rfl rfl ?_
          intro p18 _ H'; clear H; have H := H'; clear H'
          refine k_nil ?_
          refine t_on H.only ?_
          refine t_take 12 rfl (by kernel_rfl) (by kernel_rfl) (by kernel_rfl) rfl (fun _ _ _ _ h => nomatch h.1) rfl (fun _ hS => r_as (v := .pointer _) rfl) H.only ?_
          refine t_done (by kernel_rfl) ?_
          have H' := H.pick 2 rfl; simp only [List.eraseIdx_cons_succ, List.eraseIdx_cons_zero] at H'; clear H; have H := H'; clear H'
          have H' := H.pick 4 rfl; simp only [List.eraseIdx_cons_succ, List.eraseIdx_cons_zero] at H'; clear H; have H := H'; clear H'
          have H' := H.pick 4 rfl; simp only [List.eraseIdx_cons_succ, List.eraseIdx_cons_zero] at H'; clear H; have H := H'; clear H'
          have H' := H.pick 4 rfl; simp only [List.eraseIdx_cons_succ, List.eraseIdx_cons_zero] at H'; clear H; have H := H'; clear H'
          have H' := H.pick 4 rfl; simp only [List.eraseIdx_cons_succ, List.eraseIdx_cons_zero] at H'; clear H; have H := H'; clear H'
          have H := HR.more H; clear HR; simp only [List.cons_append, List.nil_append] at H
          refine k_met ?_
          exact ⟨_, _, _, _, _, _, hcc, rfl, H⟩
        · refine up_mk rfl ?_
          refine s_mk Value.bool false (m := m) H rfl rfl rfl (by omega) (by omega) (by omega) Try.underlying53 inf4 rfl ?_
          intro bp _ H'; clear H; have H := H'; clear H'
          refine k_nil ?_
          refine t_on H.only ?_
          refine t_up1 2 (by kernel_rfl) ?_
          refine up_mk rfl ?_
          refine s_call rfl (nClone _ _ _ ws _ (fun _ => ⟨_, _, rfl, by simp, (HR.same H.only).reads0 0 rfl⟩) (by omega) (by omega)) (ca79 rfl) ?_
          rintro e W1 ⟨bc, cc, rfl, hcc, H'⟩
          refine ⟨_, rfl, ?_⟩
          have H := H.more H'; clear H'
          refine k_nil ?_
          refine t_on H.only ?_
          refine t_take 10 rfl (by kernel_rfl) (by kernel_rfl) (by kernel_rfl) rfl (fun _ _ _ _ h => nomatch h.1) rfl (fun _ hS => r_bd (bd114_0_1_2_3_4 _ _ _ _ _ _ _ _ _ _ _ _ _ _ _) rfl) H.only ?_
          refine t_up1 11 (by kernel_rfl) ?_
          refine up_mk rfl ?_
          refine s_box H rfl rfl ?_
          intro p18 _ H'; clear H; have H := H'; clear H'
          refine k_nil ?_
          refine t_on H.only ?_
          refine t_take 12 rfl (by kernel_rfl) (by kernel_rfl) (by kernel_rfl) rfl (fun _ _ _ _ h => nomatch h.1) rfl (fun _ hS => r_as (v := .pointer _) rfl) H.only ?_
          refine t_done (by kernel_rfl) ?_
          have H' := H.pick 1 rfl; simp only [List.eraseIdx_cons_succ, List.eraseIdx_cons_zero] at H'; clear H; have H := H'; clear H'
          have H' := H.pick 4 rfl; simp only [List.eraseIdx_cons_succ, List.eraseIdx_cons_zero] at H'; clear H; have H := H'; clear H'
          have H' := H.pick 4 rfl; simp only [List.eraseIdx_cons_succ, List.eraseIdx_cons_zero] at H'; clear H; have H := H'; clear H'
          have H' := H.pick 4 rfl; simp only [List.eraseIdx_cons_succ, List.eraseIdx_cons_zero] at H'; clear H; have H := H'; clear H'
          have H' := H.pick 4 rfl; simp only [List.eraseIdx_cons_succ, List.eraseIdx_cons_zero] at H'; clear H; have H := H'; clear H'
          have H := HR.more H; clear HR; simp only [List.cons_append, List.nil_append] at H
          refine k_met ?_
          exact ⟨_, _, _, _, _, _, hcc, rfl, H⟩
      · refine up_mk rfl ?_
        refine s_mk Value.bool false (m := m) H rfl rfl rfl (by omega) (by omega) (by omega) Try.underlying53 inf4 rfl ?_
        intro bp _ H'; clear H; have H := H'; clear H'
        refine k_nil ?_
        refine t_on H.only ?_
        refine t_up2 2 7 (by kernel_rfl) ?_ ?_
        · refine up_mk rfl ?_
          refine s_call rfl (nClone _ _ _ ws _ (fun _ => ⟨_, _, rfl, by simp, (HR.same H.only).reads0 0 rfl⟩) (by omega) (by omega)) (ca79 rfl) ?_
          rintro e W1 ⟨bc, cc, rfl, hcc, H'⟩
          refine ⟨_, rfl, ?_⟩
          have H := H.more H'; clear H'
          refine k_nil ?_
          refine t_on H.only ?_
          refine t_up1 7 (by kernel_rfl) ?_
          refine up_mk rfl ?_
          refine s_mk Value.bool false (m := m) H rfl rfl rfl (by omega) (by omega) (by omega) Try.underlying53 inf4 rfl ?_
          intro bd _ H'; clear H; have H := H'; clear H'
          refine k_nil ?_
          refine t_on H.only ?_
          refine t_take 10 rfl (by kernel_rfl) (by kernel_rfl) (by kernel_rfl) rfl (fun _ _ _ _ h => nomatch h.1) rfl (fun _ hS => r_bd (bd114_0_1_2_3_4 _ _ _ _ _ _ _ _ _ _ _ _ _ _ _) rfl) H.only ?_
          refine t_up1 11 (by kernel_rfl) ?_
          refine up_mk rfl ?_
          refine s_box H rfl rfl ?_
          intro p18 _ H'; clear H; have H := H'; clear H'
          refine k_nil ?_
          refine t_on H.only ?_
          refine t_take 12 rfl (by kernel_rfl) (by kernel_rfl) (by kernel_rfl) rfl (fun _ _ _ _ h => nomatch h.1) rfl (fun _ hS => r_as (v := .pointer _) rfl) H.only ?_
          refine t_done (by kernel_rfl) ?_
          have H' := H.pick 2 rfl; simp only [List.eraseIdx_cons_succ, List.eraseIdx_cons_zero] at H'; clear H; have H := H'; clear H'
          have H' := H.pick 4 rfl; simp only [List.eraseIdx_cons_succ, List.eraseIdx_cons_zero] at H'; clear H; have H := H'; clear H'
          have H' := H.pick 3 rfl; simp only [List.eraseIdx_cons_succ, List.eraseIdx_cons_zero] at H'; clear H; have H := H'; clear H'
          have H' := H.pick 4 rfl; simp only [List.eraseIdx_cons_succ, List.eraseIdx_cons_zero] at H'; clear H; have H := H'; clear H'
          have H' := H.pick 4 rfl; simp only [List.eraseIdx_cons_succ, List.eraseIdx_cons_zero] at H'; clear H; have H := H'; clear H'
          have H := HR.more H; clear HR; simp only [List.cons_append, List.nil_append] at H
          refine k_met ?_
          exact ⟨_, _, _, _, _, _, hcc, rfl, H⟩
        · refine up_mk rfl ?_
          refine s_mk Value.bool false (m := m) H rfl rfl rfl (by omega) (by omega) (by omega) Try.underlying53 inf4 rfl ?_
          intro bd _ H'; clear H; have H := H'; clear H'
          refine k_nil ?_
          refine t_on H.only ?_
          refine t_up1 2 (by kernel_rfl) ?_
          refine up_mk rfl ?_
          refine s_call rfl (nClone _ _ _ ws _ (fun _ => ⟨_, _, rfl, by simp, (HR.same H.only).reads0 0 rfl⟩) (by omega) (by omega)) (ca79 rfl) ?_
          rintro e W1 ⟨bc, cc, rfl, hcc, H'⟩
          refine ⟨_, rfl, ?_⟩
          have H := H.more H'; clear H'
          refine k_nil ?_
          refine t_on H.only ?_
          refine t_take 10 rfl (by kernel_rfl) (by kernel_rfl) (by kernel_rfl) rfl (fun _ _ _ _ h => nomatch h.1) rfl (fun _ hS => r_bd (bd114_0_1_2_3_4 _ _ _ _ _ _ _ _ _ _ _ _ _ _ _) rfl) H.only ?_
          refine t_up1 11 (by kernel_rfl) ?_
          refine up_mk rfl ?_
          refine s_box H rfl rfl ?_
          intro p18 _ H'; clear H; have H := H'; clear H'
          refine k_nil ?_
          refine t_on H.only ?_
          refine t_take 12 rfl (by kernel_rfl) (by kernel_rfl) (by kernel_rfl) rfl (fun _ _ _ _ h => nomatch h.1) rfl (fun _ hS => r_as (v := .pointer _) rfl) H.only ?_
          refine t_done (by kernel_rfl) ?_
          have H' := H.pick 1 rfl; simp only [List.eraseIdx_cons_succ, List.eraseIdx_cons_zero] at H'; clear H; have H := H'; clear H'
          have H' := H.pick 4 rfl; simp only [List.eraseIdx_cons_succ, List.eraseIdx_cons_zero] at H'; clear H; have H := H'; clear H'
          have H' := H.pick 3 rfl; simp only [List.eraseIdx_cons_succ, List.eraseIdx_cons_zero] at H'; clear H; have H := H'; clear H'
          have H' := H.pick 4 rfl; simp only [List.eraseIdx_cons_succ, List.eraseIdx_cons_zero] at H'; clear H; have H := H'; clear H'
          have H' := H.pick 4 rfl; simp only [List.eraseIdx_cons_succ, List.eraseIdx_cons_zero] at H'; clear H; have H := H'; clear H'
          have H := HR.more H; clear HR; simp only [List.cons_append, List.nil_append] at H
          refine k_met ?_
          exact ⟨_, _, _, _, _, _, hcc, rfl, H⟩
    · refine up_mk rfl ?_
      refine s_mk Value.bool false (m := m) H rfl rfl rfl (by omega) (by omega) (by omega) Try.underlying53 inf4 rfl ?_
      intro bd _ H'; clear H; have H := H'; clear H'
      refine k_nil ?_
      refine t_on H.only ?_
      refine t_up3 2 5 9 (by kernel_rfl) ?_ ?_ ?_
      · refine up_mk rfl ?_
        refine s_call rfl (nClone _ _ _ ws _ (fun _ => ⟨_, _, rfl, by simp, (HR.same H.only).reads0 0 rfl⟩) (by omega) (by omega)) (ca79 rfl) ?_
        rintro e W1 ⟨bc, cc, rfl, hcc, H'⟩
        refine ⟨_, rfl, ?_⟩
        have H := H.more H'; clear H'
        refine k_nil ?_
        refine t_on H.only ?_
        refine t_up2 5 9 (by kernel_rfl) ?_ ?_
        · refine up_mk rfl ?_
          refine s_mk (Value.int .u64) 0 (m := (8 * m)) H rfl rfl rfl (by omega) (by omega) (by omega) Try.underlying25 inf22 rfl ?_
          intro bf _ H'; clear H; have H := H'; clear H'
          refine k_nil ?_
          refine t_on H.only ?_
          refine t_up1 9 (by kernel_rfl) ?_
          refine up_mk rfl ?_
          refine s_mk Value.bool false (m := m) H rfl rfl rfl (by omega) (by omega) (by omega) Try.underlying53 inf4 rfl ?_
          intro bp _ H'; clear H; have H := H'; clear H'
          refine k_nil ?_
          refine t_on H.only ?_
          refine t_take 10 rfl (by kernel_rfl) (by kernel_rfl) (by kernel_rfl) rfl (fun _ _ _ _ h => nomatch h.1) rfl (fun _ hS => r_bd (bd114_0_1_2_3_4 _ _ _ _ _ _ _ _ _ _ _ _ _ _ _) rfl) H.only ?_
          refine t_up1 11 (by kernel_rfl) ?_
          refine up_mk rfl ?_
          refine s_box H rfl rfl ?_
          intro p18 _ H'; clear H; have H := H'; clear H'
          refine k_nil ?_
          refine t_on H.only ?_
          refine t_take 12 rfl (by kernel_rfl) (by kernel_rfl) (by kernel_rfl) rfl (fun _ _ _ _ h => nomatch h.1) rfl (fun _ hS => r_as (v := .pointer _) rfl) H.only ?_
          refine t_done (by kernel_rfl) ?_
          have H' := H.pick 3 rfl; simp only [List.eraseIdx_cons_succ, List.eraseIdx_cons_zero] at H'; clear H; have H := H'; clear H'
          have H' := H.pick 3 rfl; simp only [List.eraseIdx_cons_succ, List.eraseIdx_cons_zero] at H'; clear H; have H := H'; clear H'
          have H' := H.pick 4 rfl; simp only [List.eraseIdx_cons_succ, List.eraseIdx_cons_zero] at H'; clear H; have H := H'; clear H'
          have H' := H.pick 4 rfl; simp only [List.eraseIdx_cons_succ, List.eraseIdx_cons_zero] at H'; clear H; have H := H'; clear H'
          have H' := H.pick 4 rfl; simp only [List.eraseIdx_cons_succ, List.eraseIdx_cons_zero] at H'; clear H; have H := H'; clear H'
          have H := HR.more H; clear HR; simp only [List.cons_append, List.nil_append] at H
          refine k_met ?_
          exact ⟨_, _, _, _, _, _, hcc, rfl, H⟩
        · refine up_mk rfl ?_
          refine s_mk Value.bool false (m := m) H rfl rfl rfl (by omega) (by omega) (by omega) Try.underlying53 inf4 rfl ?_
          intro bp _ H'; clear H; have H := H'; clear H'
          refine k_nil ?_
          refine t_on H.only ?_
          refine t_up1 5 (by kernel_rfl) ?_
          refine up_mk rfl ?_
          refine s_mk (Value.int .u64) 0 (m := (8 * m)) H rfl rfl rfl (by omega) (by omega) (by omega) Try.underlying25 inf22 rfl ?_
          intro bf _ H'; clear H; have H := H'; clear H'
          refine k_nil ?_
          refine t_on H.only ?_
          refine t_take 10 rfl (by kernel_rfl) (by kernel_rfl) (by kernel_rfl) rfl (fun _ _ _ _ h => nomatch h.1) rfl (fun _ hS => r_bd (bd114_0_1_2_3_4 _ _ _ _ _ _ _ _ _ _ _ _ _ _ _) rfl) H.only ?_
          refine t_up1 11 (by kernel_rfl) ?_
          refine up_mk rfl ?_
          refine s_box H rfl rfl ?_
          intro p18 _ H'; clear H; have H := H'; clear H'
          refine k_nil ?_
          refine t_on H.only ?_
          refine t_take 12 rfl (by kernel_rfl) (by kernel_rfl) (by kernel_rfl) rfl (fun _ _ _ _ h => nomatch h.1) rfl (fun _ hS => r_as (v := .pointer _) rfl) H.only ?_
          refine t_done (by kernel_rfl) ?_
          have H' := H.pick 3 rfl; simp only [List.eraseIdx_cons_succ, List.eraseIdx_cons_zero] at H'; clear H; have H := H'; clear H'
          have H' := H.pick 2 rfl; simp only [List.eraseIdx_cons_succ, List.eraseIdx_cons_zero] at H'; clear H; have H := H'; clear H'
          have H' := H.pick 4 rfl; simp only [List.eraseIdx_cons_succ, List.eraseIdx_cons_zero] at H'; clear H; have H := H'; clear H'
          have H' := H.pick 4 rfl; simp only [List.eraseIdx_cons_succ, List.eraseIdx_cons_zero] at H'; clear H; have H := H'; clear H'
          have H' := H.pick 4 rfl; simp only [List.eraseIdx_cons_succ, List.eraseIdx_cons_zero] at H'; clear H; have H := H'; clear H'
          have H := HR.more H; clear HR; simp only [List.cons_append, List.nil_append] at H
          refine k_met ?_
          exact ⟨_, _, _, _, _, _, hcc, rfl, H⟩
      · refine up_mk rfl ?_
        refine s_mk (Value.int .u64) 0 (m := (8 * m)) H rfl rfl rfl (by omega) (by omega) (by omega) Try.underlying25 inf22 rfl ?_
        intro bf _ H'; clear H; have H := H'; clear H'
        refine k_nil ?_
        refine t_on H.only ?_
        refine t_up2 2 9 (by kernel_rfl) ?_ ?_
        · refine up_mk rfl ?_
          refine s_call rfl (nClone _ _ _ ws _ (fun _ => ⟨_, _, rfl, by simp, (HR.same H.only).reads0 0 rfl⟩) (by omega) (by omega)) (ca79 rfl) ?_
          rintro e W1 ⟨bc, cc, rfl, hcc, H'⟩
          refine ⟨_, rfl, ?_⟩
          have H := H.more H'; clear H'
          refine k_nil ?_
          refine t_on H.only ?_
          refine t_up1 9 (by kernel_rfl) ?_
          refine up_mk rfl ?_
          refine s_mk Value.bool false (m := m) H rfl rfl rfl (by omega) (by omega) (by omega) Try.underlying53 inf4 rfl ?_
          intro bp _ H'; clear H; have H := H'; clear H'
          refine k_nil ?_
          refine t_on H.only ?_
          refine t_take 10 rfl (by kernel_rfl) (by kernel_rfl) (by kernel_rfl) rfl (fun _ _ _ _ h => nomatch h.1) rfl (fun _ hS => r_bd (bd114_0_1_2_3_4 _ _ _ _ _ _ _ _ _ _ _ _ _ _ _) rfl) H.only ?_
          refine t_up1 11 (by kernel_rfl) ?_
          refine up_mk rfl ?_
          refine s_box H rfl rfl ?_
          intro p18 _ H'; clear H; have H := H'; clear H'
          refine k_nil ?_
          refine t_on H.only ?_
          refine t_take 12 rfl (by kernel_rfl) (by kernel_rfl) (by kernel_rfl) rfl (fun _ _ _ _ h => nomatch h.1) rfl (fun _ hS => r_as (v := .pointer _) rfl) H.only ?_
          refine t_done (by kernel_rfl) ?_
          have H' := H.pick 2 rfl; simp only [List.eraseIdx_cons_succ, List.eraseIdx_cons_zero] at H'; clear H; have H := H'; clear H'
          have H' := H.pick 3 rfl; simp only [List.eraseIdx_cons_succ, List.eraseIdx_cons_zero] at H'; clear H; have H := H'; clear H'
          have H' := H.pick 4 rfl; simp only [List.eraseIdx_cons_succ, List.eraseIdx_cons_zero] at H'; clear H; have H := H'; clear H'
          have H' := H.pick 4 rfl; simp only [List.eraseIdx_cons_succ, List.eraseIdx_cons_zero] at H'; clear H; have H := H'; clear H'
          have H' := H.pick 4 rfl; simp only [List.eraseIdx_cons_succ, List.eraseIdx_cons_zero] at H'; clear H; have H := H'; clear H'
          have H := HR.more H; clear HR; simp only [List.cons_append, List.nil_append] at H
          refine k_met ?_
          exact ⟨_, _, _, _, _, _, hcc, rfl, H⟩
        · refine up_mk rfl ?_
          refine s_mk Value.bool false (m := m) H rfl rfl rfl (by omega) (by omega) (by omega) Try.underlying53 inf4 rfl ?_
          intro bp _ H'; clear H; have H := H'; clear H'
          refine k_nil ?_
          refine t_on H.only ?_
          refine t_up1 2 (by kernel_rfl) ?_
          refine up_mk rfl ?_
          refine s_call rfl (nClone _ _ _ ws _ (fun _ => ⟨_, _, rfl, by simp, (HR.same H.only).reads0 0 rfl⟩) (by omega) (by omega)) (ca79 rfl) ?_
          rintro e W1 ⟨bc, cc, rfl, hcc, H'⟩
          refine ⟨_, rfl, ?_⟩
          have H := H.more H'; clear H'
          refine k_nil ?_
          refine t_on H.only ?_
          refine t_take 10 rfl (by kernel_rfl) (by kernel_rfl) (by kernel_rfl) rfl (fun _ _ _ _ h => nomatch h.1) rfl (fun _ hS => r_bd (bd114_0_1_2_3_4 _ _ _ _ _ _ _ _ _ _ _ _ _ _ _) rfl) H.only ?_
          refine t_up1 11 (by kernel_rfl) ?_
          refine up_mk rfl ?_
          refine s_box H rfl rfl ?_
          intro p18 _ H'; clear H; have H := H'; clear H'
          refine k_nil ?_
          refine t_on H.only ?_
          refine t_take 12 rfl (by kernel_rfl) (by kernel_rfl) (by kernel_rfl) rfl (fun _ _ _ _ h => nomatch h.1) rfl (fun _ hS => r_as (v := .pointer _) rfl) H.only ?_
          refine t_done (by kernel_rfl) ?_
          have H' := H.pick 1 rfl; simp only [List.eraseIdx_cons_succ, List.eraseIdx_cons_zero] at H'; clear H; have H := H'; clear H'
          have H' := H.pick 3 rfl; simp only [List.eraseIdx_cons_succ, List.eraseIdx_cons_zero] at H'; clear H; have H := H'; clear H'
          have H' := H.pick 4 rfl; simp only [List.eraseIdx_cons_succ, List.eraseIdx_cons_zero] at H'; clear H; have H := H'; clear H'
          have H' := H.pick 4 rfl; simp only [List.eraseIdx_cons_succ, List.eraseIdx_cons_zero] at H'; clear H; have H := H'; clear H'
          have H' := H.pick 4 rfl; simp only [List.eraseIdx_cons_succ, List.eraseIdx_cons_zero] at H'; clear H; have H := H'; clear H'
          have H := HR.more H; clear HR; simp only [List.cons_append, List.nil_append] at H
          refine k_met ?_
          exact ⟨_, _, _, _, _, _, hcc, rfl, H⟩
      · refine up_mk rfl ?_
        refine s_mk Value.bool false (m := m) H rfl rfl rfl (by omega) (by omega) (by omega) Try.underlying53 inf4 rfl ?_
        intro bp _ H'; clear H; have H := H'; clear H'
        refine k_nil ?_
        refine t_on H.only ?_
        refine t_up2 2 5 (by kernel_rfl) ?_ ?_
        · refine up_mk rfl ?_
          refine s_call rfl (nClone _ _ _ ws _ (fun _ => ⟨_, _, rfl, by simp, (HR.same H.only).reads0 0 rfl⟩) (by omega) (by omega)) (ca79 rfl) ?_
          rintro e W1 ⟨bc, cc, rfl, hcc, H'⟩
          refine ⟨_, rfl, ?_⟩
          have H := H.more H'; clear H'
          refine k_nil ?_
          refine t_on H.only ?_
          refine t_up1 5 (by kernel_rfl) ?_
          refine up_mk rfl ?_
          refine s_mk (Value.int .u64) 0 (m := (8 * m)) H rfl rfl rfl (by omega) (by omega) (by omega) Try.underlying25 inf22 rfl ?_
          intro bf _ H'; clear H; have H := H'; clear H'
          refine k_nil ?_
          refine t_on H.only ?_
          refine t_take 10 rfl (by kernel_rfl) (by kernel_rfl) (by kernel_rfl) rfl (fun _ _ _ _ h => nomatch h.1) rfl (fun _ hS => r_bd (bd114_0_1_2_3_4 _ _ _ _ _ _ _ _ _ _ _ _ _ _ _) rfl) H.only ?_
          refine t_up1 11 (by kernel_rfl) ?_
          refine up_mk rfl ?_
          refine s_box H rfl rfl ?_
          intro p18 _ H'; clear H; have H := H'; clear H'
          refine k_nil ?_
          refine t_on H.only ?_
          refine t_take 12 rfl (by kernel_rfl) (by kernel_rfl) (by kernel_rfl) rfl (fun _ _ _ _ h => nomatch h.1) rfl (fun _ hS => r_as (v := .pointer _) rfl) H.only ?_
          refine t_done (by kernel_rfl) ?_
          have H' := H.pick 2 rfl; simp only [List.eraseIdx_cons_succ, List.eraseIdx_cons_zero] at H'; clear H; have H := H'; clear H'
          have H' := H.pick 2 rfl; simp only [List.eraseIdx_cons_succ, List.eraseIdx_cons_zero] at H'; clear H; have H := H'; clear H'
          have H' := H.pick 4 rfl; simp only [List.eraseIdx_cons_succ, List.eraseIdx_cons_zero] at H'; clear H; have H := H'; clear H'
          have H' := H.pick 4 rfl; simp only [List.eraseIdx_cons_succ, List.eraseIdx_cons_zero] at H'; clear H; have H := H'; clear H'
          have H' := H.pick 4 rfl; simp only [List.eraseIdx_cons_succ, List.eraseIdx_cons_zero] at H'; clear H; have H := H'; clear H'
          have H := HR.more H; clear HR; simp only [List.cons_append, List.nil_append] at H
          refine k_met ?_
          exact ⟨_, _, _, _, _, _, hcc, rfl, H⟩
        · refine up_mk rfl ?_
          refine s_mk (Value.int .u64) 0 (m := (8 * m)) H rfl rfl rfl (by omega) (by omega) (by omega) Try.underlying25 inf22 rfl ?_
          intro bf _ H'; clear H; have H := H'; clear H'
          refine k_nil ?_
          refine t_on H.only ?_
          refine t_up1 2 (by kernel_rfl) ?_
          refine up_mk rfl ?_
          refine s_call rfl (nClone _ _ _ ws _ (fun _ => ⟨_, _, rfl, by simp, (HR.same H.only).reads0 0 rfl⟩) (by omega) (by omega)) (ca79 rfl) ?_
          rintro e W1 ⟨bc, cc, rfl, hcc, H'⟩
          refine ⟨_, rfl, ?_⟩
          have H := H.more H'; clear H'
          refine k_nil ?_
          refine t_on H.only ?_
          refine t_take 10 rfl (by kernel_rfl) (by kernel_rfl) (by kernel_rfl) rfl (fun _ _ _ _ h => nomatch h.1) rfl (fun _ hS => r_bd (bd114_0_1_2_3_4 _ _ _ _ _ _ _ _ _ _ _ _ _ _ _) rfl) H.only ?_
          refine t_up1 11 (by kernel_rfl) ?_
          refine up_mk rfl ?_
          refine s_box H rfl rfl ?_
          intro p18 _ H'; clear H; have H := H'; clear H'
          refine k_nil ?_
          refine t_on H.only ?_
          refine t_take 12 rfl (by kernel_rfl) (by kernel_rfl) (by kernel_rfl) rfl (fun _ _ _ _ h => nomatch h.1) rfl (fun _ hS => r_as (v := .pointer _) rfl) H.only ?_
          refine t_done (by kernel_rfl) ?_
          have H' := H.pick 1 rfl; simp only [List.eraseIdx_cons_succ, List.eraseIdx_cons_zero] at H'; clear H; have H := H'; clear H'
          have H' := H.pick 2 rfl; simp only [List.eraseIdx_cons_succ, List.eraseIdx_cons_zero] at H'; clear H; have H := H'; clear H'
          have H' := H.pick 4 rfl; simp only [List.eraseIdx_cons_succ, List.eraseIdx_cons_zero] at H'; clear H; have H := H'; clear H'
          have H' := H.pick 4 rfl; simp only [List.eraseIdx_cons_succ, List.eraseIdx_cons_zero] at H'; clear H; have H := H'; clear H'
          have H' := H.pick 4 rfl; simp only [List.eraseIdx_cons_succ, List.eraseIdx_cons_zero] at H'; clear H; have H := H'; clear H'
          have H := HR.more H; clear HR; simp only [List.cons_append, List.nil_append] at H
          refine k_met ?_
          exact ⟨_, _, _, _, _, _, hcc, rfl, H⟩
    · refine up_mk rfl ?_
      refine s_mk Value.bool false (m := m) H rfl rfl rfl (by omega) (by omega) (by omega) Try.underlying53 inf4 rfl ?_
      intro bp _ H'; clear H; have H := H'; clear H'
      refine k_nil ?_
      refine t_on H.only ?_
      refine t_up3 2 5 7 (by kernel_rfl) ?_ ?_ ?_
      · refine up_mk rfl ?_
        refine s_call rfl (nClone _ _ _ ws _ (fun _ => ⟨_, _, rfl, by simp, (HR.same H.only).reads0 0 rfl⟩) (by omega) (by omega)) (ca79 rfl) ?_
        rintro e W1 ⟨bc, cc, rfl, hcc, H'⟩
        refine ⟨_, rfl, ?_⟩
        have H := H.more H'; clear H'
        refine k_nil ?_
        refine t_on H.only ?_
        refine t_up2 5 7 (by kernel_rfl) ?_ ?_
        · refine up_mk rfl ?_
          refine s_mk (Value.int .u64) 0 (m := (8 * m)) H rfl rfl rfl (by omega) (by omega) (by omega) Try.underlying25 inf22 rfl ?_
          intro bf _ H'; clear H; have H := H'; clear H'
          refine k_nil ?_
          refine t_on H.only ?_
          refine t_up1 7 (by kernel_rfl) ?_
          refine up_mk rfl ?_
          refine s_mk Value.bool false (m := m) H rfl rfl rfl (by omega) (by omega) (by omega) Try.underlying53 inf4 rfl ?_
          intro bd _ H'; clear H; have H := H'; clear H'
          refine k_nil ?_
          refine t_on H.only ?_
          refine t_take 10 rfl (by kernel_rfl) (by kernel_rfl) (by kernel_rfl) rfl (fun _ _ _ _ h => nomatch h.1) rfl (fun _ hS => r_bd (bd114_0_1_2_3_4 _ _ _ _ _ _ _ _ _ _ _ _ _ _ _) rfl) H.only ?_
          refine t_up1 11 (by kernel_rfl) ?_
          refine up_mk rfl ?_
          refine s_box H rfl rfl ?_
          intro p18 _ H'; clear H; have H := H'; clear H'
          refine k_nil ?_
          refine t_on H.only ?_
          refine t_take 12 rfl (by kernel_rfl) (by kernel_rfl) (by kernel_rfl) rfl (fun _ _ _ _ h => nomatch h.1) rfl (fun _ hS => r_as (v := .pointer _) rfl) H.only ?_
          refine t_done (by kernel_rfl) ?_
          have H' := H.pick 3 rfl; simp only [List.eraseIdx_cons_succ, List.eraseIdx_cons_zero] at H'; clear H; have H := H'; clear H'
          have H' := H.pick 3 rfl; simp only [List.eraseIdx_cons_succ, List.eraseIdx_cons_zero] at H'; clear H; have H := H'; clear H'
          have H' := H.pick 3 rfl; simp only [List.eraseIdx_cons_succ, List.eraseIdx_cons_zero] at H'; clear H; have H := H'; clear H'
          have H' := H.pick 4 rfl; simp only [List.eraseIdx_cons_succ, List.eraseIdx_cons_zero] at H'; clear H; have H := H'; clear H'
          have H' := H.pick 4 rfl; simp only [List.eraseIdx_cons_succ, List.eraseIdx_cons_zero] at H'; clear H; have H := H'; clear H'
          have H := HR.more H; clear HR; simp only [List.cons_append, List.nil_append] at H
          refine k_met ?_
          exact ⟨_, _, _, _, _, _, hcc, rfl, H⟩
        · refine up_mk rfl ?_
          refine s_mk Value.bool false (m := m) H rfl rfl rfl (by omega) (by omega) (by omega) Try.underlying53 inf4 rfl ?_
          intro bd _ H'; clear H; have H := H'; clear H'
          refine k_nil ?_
          refine t_on H.only ?_
          refine t_up1 5 (by kernel_rfl) ?_
          refine up_mk rfl ?_
          refine s_mk (Value.int .u64) 0 (m := (8 * m)) H rfl rfl rfl (by omega) (by omega) (by omega) Try.underlying25 inf22 rfl ?_
          intro bf _ H'; clear H; have H := H'; clear H'
          refine k_nil ?_
          refine t_on H.only ?_
          refine t_take 10 rfl (by kernel_rfl) (by kernel_rfl) (by kernel_rfl) rfl (fun _ _ _ _ h => nomatch h.1) rfl (fun _ hS => r_bd (bd114_0_1_2_3_4 _ _ _ _ _ _ _ _ _ _ _ _ _ _ _) rfl) H.only ?_
          refine t_up1 11 (by kernel_rfl) ?_
          refine up_mk rfl ?_
          refine s_box H rfl rfl ?_
          intro p18 _ H'; clear H; have H := H'; clear H'
          refine k_nil ?_
          refine t_on H.only ?_
          refine t_take 12 rfl (by kernel_rfl) (by kernel_rfl) (by kernel_rfl) rfl (fun _ _ _ _ h => nomatch h.1) rfl (fun _ hS => r_as (v := .pointer _) rfl) H.only ?_
          refine t_done (by kernel_rfl) ?_
          have H' := H.pick 3 rfl; simp only [List.eraseIdx_cons_succ, List.eraseIdx_cons_zero] at H'; clear H; have H := H'; clear H'
          have H' := H.pick 2 rfl; simp only [List.eraseIdx_cons_succ, List.eraseIdx_cons_zero] at H'; clear H; have H := H'; clear H'
          have H' := H.pick 3 rfl; simp only [List.eraseIdx_cons_succ, List.eraseIdx_cons_zero] at H'; clear H; have H := H'; clear H'
          have H' := H.pick 4 rfl; simp only [List.eraseIdx_cons_succ, List.eraseIdx_cons_zero] at H'; clear H; have H := H'; clear H'
          have H' := H.pick 4 rfl; simp only [List.eraseIdx_cons_succ, List.eraseIdx_cons_zero] at H'; clear H; have H := H'; clear H'
          have H := HR.more H; clear HR; simp only [List.cons_append, List.nil_append] at H
          refine k_met ?_
          exact ⟨_, _, _, _, _, _, hcc, rfl, H⟩
      · refine up_mk rfl ?_
        refine s_mk (Value.int .u64) 0 (m := (8 * m)) H rfl rfl rfl (by omega) (by omega) (by omega) Try.underlying25 inf22 rfl ?_
        intro bf _ H'; clear H; have H := H'; clear H'
        refine k_nil ?_
        refine t_on H.only ?_
        refine t_up2 2 7 (by kernel_rfl) ?_ ?_
        · refine up_mk rfl ?_
          refine s_call rfl (nClone _ _ _ ws _ (fun _ => ⟨_, _, rfl, by simp, (HR.same H.only).reads0 0 rfl⟩) (by omega) (by omega)) (ca79 rfl) ?_
          rintro e W1 ⟨bc, cc, rfl, hcc, H'⟩
          refine ⟨_, rfl, ?_⟩
          have H := H.more H'; clear H'
          refine k_nil ?_
          refine t_on H.only ?_
          refine t_up1 7 (by kernel_rfl) ?_
          refine up_mk rfl ?_
          refine s_mk Value.bool false (m := m) H rfl rfl rfl (by omega) (by omega) (by omega) Try.underlying53 inf4 rfl ?_
          intro bd _ H'; clear H; have H := H'; clear H'
          refine k_nil ?_
          refine t_on H.only ?_
          refine t_take 10 rfl (by kernel_rfl) (by kernel_rfl) (by kernel_rfl) rfl (fun _ _ _ _ h => nomatch h.1) rfl (fun _ hS => r_bd (bd114_0_1_2_3_4 _ _ _ _ _ _ _ _ _ _ _ _ _ _ _) rfl) H.only ?_
          refine t_up1 11 (by kernel_rfl) ?_
          refine up_mk rfl ?_
          refine s_box H rfl rfl ?_
          intro p18 _ H'; clear H; have H := H'; clear H'
          refine k_nil ?_
          refine t_on H.only ?_
          refine t_take 12 rfl (by kernel_rfl) (by kernel_rfl) (by kernel_rfl) rfl (fun _ _ _ _ h => nomatch h.1) rfl (fun _ hS => r_as (v := .pointer _) rfl) H.only ?_
          refine t_done (by kernel_rfl) ?_
          have H' := H.pick 2 rfl; simp only [List.eraseIdx_cons_succ, List.eraseIdx_cons_zero] at H'; clear H; have H := H'; clear H'
          have H' := H.pick 3 rfl; simp only [List.eraseIdx_cons_succ, List.eraseIdx_cons_zero] at H'; clear H; have H := H'; clear H'
          have H' := H.pick 3 rfl; simp only [List.eraseIdx_cons_succ, List.eraseIdx_cons_zero] at H'; clear H; have H := H'; clear H'
          have H' := H.pick 4 rfl; simp only [List.eraseIdx_cons_succ, List.eraseIdx_cons_zero] at H'; clear H; have H := H'; clear H'
          have H' := H.pick 4 rfl; simp only [List.eraseIdx_cons_succ, List.eraseIdx_cons_zero] at H'; clear H; have H := H'; clear H'
          have H := HR.more H; clear HR; simp only [List.cons_append, List.nil_append] at H
          refine k_met ?_
          exact ⟨_, _, _, _, _, _, hcc, rfl, H⟩
        · refine up_mk rfl ?_
          refine s_mk Value.bool false (m := m) H rfl rfl rfl (by omega) (by omega) (by omega) Try.underlying53 inf4 rfl ?_
          intro bd _ H'; clear H; have H := H'; clear H'
          refine k_nil ?_
          refine t_on H.only ?_
          refine t_up1 2 (by kernel_rfl) ?_
          refine up_mk rfl ?_
          refine s_call rfl (nClone _ _ _ ws _ (fun _ => ⟨_, _, rfl, by simp, (HR.same H.only).reads0 0 rfl⟩) (by omega) (by omega)) (ca79 rfl) ?_
          rintro e W1 ⟨bc, cc, rfl, hcc, H'⟩
          refine ⟨_, rfl, ?_⟩
          have H := H.more H'; clear H'
          refine k_nil ?_
          refine t_on H.only ?_
          refine t_take 10 rfl (by kernel_rfl) (by kernel_rfl) (by kernel_rfl) rfl (fun _ _ _ _ h => nomatch h.1) rfl (fun _ hS => r_bd (bd114_0_1_2_3_4 _ _ _ _ _ _ _ _ _ _ _ _ _ _ _) rfl) H.only ?_
          refine t_up1 11 (by kernel_rfl) ?_
          refine up_mk rfl ?_
          refine s_box H rfl rfl ?_
          intro p18 _ H'; clear H; have H := H'; clear H'
          refine k_nil ?_
          refine t_on H.only ?_
          refine t_take 12 rfl (by kernel_rfl) (by kernel_rfl) (by kernel_rfl) rfl (fun _ _ _ _ h => nomatch h.1) rfl (fun _ hS => r_as (v := .pointer _) rfl) H.only ?_
          refine t_done (by kernel_rfl) ?_
          have H' := H.pick 1 rfl; simp only [List.eraseIdx_cons_succ, List.eraseIdx_cons_zero] at H'; clear H; have H := H'; clear H'
          have H' := H.pick 3 rfl; simp only [List.eraseIdx_cons_succ, List.eraseIdx_cons_zero] at H'; clear H; have H := H'; clear H'
          have H' := H.pick 3 rfl; simp only [List.eraseIdx_cons_succ, List.eraseIdx_cons_zero] at H'; clear H; have H := H'; clear H'
          have H' := H.pick 4 rfl; simp only [List.eraseIdx_cons_succ, List.eraseIdx_cons_zero] at H'; clear H; have H := H'; clear H'
          have H' := H.pick 4 rfl; simp only [List.eraseIdx_cons_succ, List.eraseIdx_cons_zero] at H'; clear H; have H := H'; clear H'
          have H := HR.more H; clear HR; simp only [List.cons_append, List.nil_append] at H
          refine k_met ?_
          exact ⟨_, _, _, _, _, _, hcc, rfl, H⟩
      · refine up_mk rfl ?_
        refine s_mk Value.bool false (m := m) H rfl rfl rfl (by omega) (by omega) (by omega) Try.underlying53 inf4 rfl ?_
        intro bd _ H'; clear H; have H := H'; clear H'
        refine k_nil ?_
        refine t_on H.only ?_
        refine t_up2 2 5 (by kernel_rfl) ?_ ?_
        · refine up_mk rfl ?_
          refine s_call rfl (nClone _ _ _ ws _ (fun _ => ⟨_, _, rfl, by simp, (HR.same H.only).reads0 0 rfl⟩) (by omega) (by omega)) (ca79 rfl) ?_
          rintro e W1 ⟨bc, cc, rfl, hcc, H'⟩
          refine ⟨_, rfl, ?_⟩
          have H := H.more H'; clear H'
          refine k_nil ?_
          refine t_on H.only ?_
          refine t_up1 5 (by kernel_rfl) ?_
          refine up_mk rfl ?_
          refine s_mk (Value.int .u64) 0 (m := (8 * m)) H rfl rfl rfl (by omega) (by omega) (by omega) Try.underlying25 inf22 rfl ?_
          intro bf _ H'; clear H; have H := H'; clear H'
          refine k_nil ?_
          refine t_on H.only ?_
          refine t_take 10 rfl (by kernel_rfl) (by kernel_rfl) (by kernel_rfl) rfl (fun _ _ _ _ h => nomatch h.1) rfl (fun _ hS => r_bd (bd114_0_1_2_3_4 _ _ _ _ _ _ _ _ _ _ _ _ _ _ _) rfl) H.only ?_
          refine t_up1 11 (by kernel_rfl) ?_
          refine up_mk rfl ?_
          refine s_box H rfl rfl ?_
          intro p18 _ H'; clear H; have H := H'; clear H'
          refine k_nil ?_
          refine t_on H.only ?_
          refine t_take 12 rfl (by kernel_rfl) (by kernel_rfl) (by kernel_rfl) rfl (fun _ _ _ _ h => nomatch h.1) rfl (fun _ hS => r_as (v := .pointer _) rfl) H.only ?_
          refine t_done (by kernel_rfl) ?_
          have H' := H.pick 2 rfl; simp only [List.eraseIdx_cons_succ, List.eraseIdx_cons_zero] at H'; clear H; have H := H'; clear H'
          have H' := H.pick 2 rfl; simp only [List.eraseIdx_cons_succ, List.eraseIdx_cons_zero] at H'; clear H; have H := H'; clear H'
          have H' := H.pick 3 rfl; simp only [List.eraseIdx_cons_succ, List.eraseIdx_cons_zero] at H'; clear H; have H := H'; clear H'
          have H' := H.pick 4 rfl; simp only [List.eraseIdx_cons_succ, List.eraseIdx_cons_zero] at H'; clear H; have H := H'; clear H'
          have H' := H.pick 4 rfl; simp only [List.eraseIdx_cons_succ, List.eraseIdx_cons_zero] at H'; clear H; have H := H'; clear H'
          have H := HR.more H; clear HR; simp only [List.cons_append, List.nil_append] at H
          refine k_met ?_
          exact ⟨_, _, _, _, _, _, hcc, rfl, H⟩
        · refine up_mk rfl ?_
          refine s_mk (Value.int .u64) 0 (m := (8 * m)) H rfl rfl rfl (by omega) (by omega) (by omega) Try.underlying25 inf22 rfl ?_
          intro bf _ H'; clear H; have H := H'; clear H'
          refine k_nil ?_
          refine t_on H.only ?_
          refine t_up1 2 (by kernel_rfl) ?_
          refine up_mk rfl ?_
          refine s_call rfl (nClone _ _ _ ws _ (fun _ => ⟨_, _, rfl, by simp, (HR.same H.only).reads0 0 rfl⟩) (by omega) (by omega)) (ca79 rfl) ?_
          rintro e W1 ⟨bc, cc, rfl, hcc, H'⟩
          refine ⟨_, rfl, ?_⟩
          have H := H.more H'; clear H'
          refine k_nil ?_
          refine t_on H.only ?_
          refine t_take 10 rfl (by kernel_rfl) (by kernel_rfl) (by kernel_rfl) rfl (fun _ _ _ _ h => nomatch h.1) rfl (fun _ hS => r_bd (bd114_0_1_2_3_4 _ _ _ _ _ _ _ _ _ _ _ _ _ _ _) rfl) H.only ?_
          refine t_up1 11 (by kernel_rfl) ?_
          refine up_mk rfl ?_
          refine s_box H rfl rfl ?_
          intro p18 _ H'; clear H; have H := H'; clear H'
          refine k_nil ?_
          refine t_on H.only ?_
          refine t_take 12 rfl (by kernel_rfl) (by kernel_rfl) (by kernel_rfl) rfl (fun _ _ _ _ h => nomatch h.1) rfl (fun _ hS => r_as (v := .pointer _) rfl) H.only ?_
          refine t_done (by kernel_rfl) ?_
          have H' := H.pick 1 rfl; simp only [List.eraseIdx_cons_succ, List.eraseIdx_cons_zero] at H'; clear H; have H := H'; clear H'
          have H' := H.pick 2 rfl; simp only [List.eraseIdx_cons_succ, List.eraseIdx_cons_zero] at H'; clear H; have H := H'; clear H'
          have H' := H.pick 3 rfl; simp only [List.eraseIdx_cons_succ, List.eraseIdx_cons_zero] at H'; clear H; have H := H'; clear H'
          have H' := H.pick 4 rfl; simp only [List.eraseIdx_cons_succ, List.eraseIdx_cons_zero] at H'; clear H; have H := H'; clear H'
          have H' := H.pick 4 rfl; simp only [List.eraseIdx_cons_succ, List.eraseIdx_cons_zero] at H'; clear H; have H := H'; clear H'
          have H := HR.more H; clear HR; simp only [List.cons_append, List.nil_append] at H
          refine k_met ?_
          exact ⟨_, _, _, _, _, _, hcc, rfl, H⟩
  clear H
  rintro f' W ⟨p, bc, cc, bf, bd, bp, hcc, h2, H⟩
  obtain ⟨f', rfl⟩ := live1 h2
  refine c_norm ?_
  refine k_ret ?_
  refine fin1r (v := .pointer _) rfl rfl ?_
  refine ⟨⟨p, b, bc, bf, bd, bp, c, cc, 8 * m, m, m⟩, rfl, ⟨hc, hcc, by simp; omega, by simp; omega, by simp; omega⟩, ?_⟩
  unfold devL devCells Nv.load
  simp only [hl, List.length_replicate]
  refine H.perm ?_
  refine List.Perm.cons _ ?_
  exact (List.reverse_perm [vec (Value.int .u64) b ws 22, vec (Value.int .u64) bc ws 22, vec (Value.int .u64) bf (List.replicate (8 * m) 0) 22, vec Value.bool bd (List.replicate m false) 4, vec Value.bool bp (List.replicate m false) 4])
theorem nUp (n : Int) (w : World) (h : -9223372036854775808 ≤ n ∧ n ≤ 9223372036854775807) :
    Calls Try.prog 64 [.int .i64 n, .int .i64 8].toArray w fun e w' => e = .returned (.int .i64 (((n.toNat + 7) / 8 : Nat) : Int)) ∧ Only [] w w' := by
  have H := Heap.nil w
  by_cases h0 : n ≤ 0
  · refine k_in (N := 16) Try.func64 rfl rfl rfl ?_
    refine k_seq ?_
    refine k_rg ?_
    refine s_run rfl rfl (r_as (v := .int _ _) rfl) ?_
    refine k_nil ?_
    refine c_norm ?_
    refine k_seq ?_
    refine k_seq ?_
    refine k_rg ?_
    refine s_run rfl rfl (r_mv (v := .int _ _) rfl) ?_
    refine s_run rfl rfl (r_leqT rfl rfl (by omega)) ?_
    refine s_run rfl rfl (r_mv (v := .bool _) rfl) ?_
    refine s_off rfl (g_off 7 (by kernel_rfl) rfl rfl) ?_
    refine s_off rfl (g_off 7 (by kernel_rfl) rfl rfl) ?_
    refine s_run rfl rfl (r_pkT (v := .bool _) rfl rfl) ?_
    refine k_nil ?_
    refine c_norm ?_
    refine k_t rfl ?_
    refine k_seq ?_
    refine k_rg ?_
    refine s_run rfl rfl (r_as (v := .int _ _) rfl) ?_
    refine k_nil ?_
    refine c_norm ?_
    refine k_ret ?_
    refine c_ret ?_
    refine fin1r (v := .int _ _) rfl rfl ?_
    exact ⟨by rw [show ((n.toNat + 7) / 8 : Nat) = 0 from by omega]; rfl, H.only⟩
  · refine k_in (N := 16) Try.func64 rfl rfl rfl ?_
    refine k_seq ?_
    refine k_rg ?_
    refine s_run rfl rfl (r_as (v := .int _ _) rfl) ?_
    refine k_nil ?_
    refine c_norm ?_
    refine k_seq ?_
    refine k_seq ?_
    refine k_rg ?_
    refine s_run rfl rfl (r_mv (v := .int _ _) rfl) ?_
    refine s_run rfl rfl (r_leqF rfl rfl (by omega)) ?_
    refine s_run rfl rfl (r_mv (v := .bool _) rfl) ?_
    refine s_run rfl (g_on 7 (by kernel_rfl) rfl) (r_mv (v := .int _ _) rfl) ?_
    refine s_run rfl (g_on 7 (by kernel_rfl) rfl) (r_leqF rfl rfl (by omega)) ?_
    refine s_run rfl rfl (r_pkF (v := .bool _) rfl rfl) ?_
    refine k_nil ?_
    refine c_norm ?_
    refine k_f rfl ?_
    refine k_skip ?_
    refine c_norm ?_
    refine k_seq ?_
    refine k_rg ?_
    refine s_run rfl rfl (r_mv (v := .int _ _) rfl) ?_
    refine s_run rfl rfl (r_sub rfl rfl (wI (by omega))) ?_
    refine s_run rfl rfl (r_mv (v := .int _ _) rfl) ?_
    refine s_run rfl rfl (r_quo rfl rfl (by omega) (wI (by omega))) ?_
    refine s_run rfl rfl (r_add rfl rfl (wI (by omega))) ?_
    refine s_run rfl rfl (r_as (v := .int _ _) rfl) ?_
    refine k_nil ?_
    refine c_norm ?_
    refine k_ret ?_
    refine fin1r (v := .int _ _) rfl rfl ?_
    exact ⟨ret_int (by omega), H.only⟩
theorem nAll (g : Geo) (d : Nv.D) (m : Nat) (w : World) (hE : Ents (devL g d) w) (ho : Nv.Ok d m) (hm : m ≤ 100000) :
    Calls Try.prog 47 [ptr g.p].toArray w fun e w' => ∃ b c', e = .returned (.slice (some ⟨b, 0, none⟩) (8 * m) c') ∧ (8 * m ≤ c' ∧ c' ≤ 9223372036854775807) ∧ Heap w [] [vec (Value.int .u64) b d.last 22] w' := by
  have HR := Heap.start hE
  have H := Heap.nil w
  have hl := ho.hl
  generalize hF : ids (devL g d) = F at HR
  unfold devL devCells at HR
  rw [hl] at HR
  refine k_in (N := 8) Try.func47 rfl rfl rfl ?_
  refine k_seq ?_
  refine k_rg ?_
  refine s_run rfl rfl (r_as (v := .slice _ _ _) rfl) ?_
  refine k_nil ?_
  refine c_norm ?_
  refine k_seq ?_
  refine k_rg ?_
  refine s_run rfl rfl (r_mv (v := .pointer _) rfl) ?_
  refine s_run rfl rfl (r_nc rfl) ?_
  refine s_run rfl rfl (r_fa0 rfl fo114_0) ?_
  refine s_run rfl rfl (r_lo (HR.same H.only) 0 rfl rfl rfl ag25) ?_
  refine s_call rfl (nClone _ _ _ d.last _ (fun _ => ⟨_, _, rfl, by simp, HR.reads0 1 rfl⟩) (by omega) (by omega)) (ca79 rfl) ?_
  rintro e W1 ⟨b, c', rfl, hc, H'⟩
  refine ⟨_, rfl, ?_⟩
  have H := H.more H'; clear H'
  refine s_run rfl rfl (r_as (v := .slice _ _ _) rfl) ?_
  refine k_nil ?_
  refine c_norm ?_
  refine k_ret ?_
  refine fin1r (v := .slice _ _ _) rfl rfl ?_
  exact ⟨b, c', rfl, hc, H⟩
theorem nNew (n : Int) (w : World) (h : -9223372036854775808 ≤ n ∧ n ≤ 500000) :
    Calls Try.prog 21 [.int .i64 n].toArray w fun e w' => ∃ g, e = .returned (ptr g.p) ∧ GOk g ((n.toNat + 7) / 8) ∧ Heap w [] (devL g (Nv.load (List.replicate (8 * ((n.toNat + 7) / 8)) 0) ((n.toNat + 7) / 8))) w' := by
  have H := Heap.nil w
  have hq : (n.toNat + 7) / 8 ≤ 100000 := by omega
  have hU := nUp n w (by omega)
  generalize (n.toNat + 7) / 8 = m at hq hU ⊢
  refine k_in (N := 10) Try.func21 rfl rfl rfl ?_
  refine k_seq ?_
  refine k_rg ?_
  refine s_run rfl rfl (r_as (v := .pointer _) rfl) ?_
  refine k_nil ?_
  refine c_norm ?_
  refine k_seq ?_
  refine k_rg ?_
  refine s_run rfl rfl (r_mv (v := .int _ _) rfl) ?_
  refine s_call rfl (hU) (ca64 rfl) ?_
  rintro e W1 ⟨rfl, H'⟩
  refine ⟨_, rfl, ?_⟩
  have H := H.same H'; clear H'
  refine s_run rfl rfl (r_as (v := .int _ _) rfl) ?_
  refine k_nil ?_
  refine c_norm ?_
  refine k_seq ?_
  refine k_rg ?_
  refine s_run rfl rfl (r_mv (v := .int _ _) rfl) ?_
  refine s_run rfl rfl (r_mul rfl rfl (wI (by omega))) ?_
  refine s_mk (Value.int .u64) 0 (m := (8 * m)) H rfl rfl rfl (by omega) (by omega) (by omega) Try.underlying25 inf22 rfl ?_
  intro b _ H'; clear H; have H := H'; clear H'
  refine s_call rfl (nload b (8 * m) m _ _ H.ents (by simp) hq (by omega)) (ca65 rfl) ?_
  rintro e W1 ⟨g, rfl, hg, H'⟩
  refine ⟨_, rfl, ?_⟩
  have H := H.whole H'; clear H'
  refine s_run rfl rfl (r_as (v := .pointer _) rfl) ?_
  refine k_nil ?_
  refine c_norm ?_
  refine k_ret ?_
  refine fin1r (v := .pointer _) rfl rfl ?_
  exact ⟨g, rfl, hg, H⟩
theorem nLoad (A : Option Addr) (n c : Nat) (zs : List Int) (w : World) (hz : Sees (Value.int .u64) w [] A zs) (hl : zs.length = n) (hn : n ≤ 500000) :
    Calls Try.prog 16 [.slice A n c].toArray w fun e w' => ∃ g, e = .returned (ptr g.p) ∧ GOk g ((n + 7) / 8) ∧ Heap w [] (devL g (Nv.load (zs ++ List.replicate (8 * ((n + 7) / 8) - n) 0) ((n + 7) / 8))) w' := by
  have H := Heap.nil w
  have hq : (n + 7) / 8 ≤ 100000 ∧ n ≤ 8 * ((n + 7) / 8) := by omega
  have hU := nUp n w (by omega)
  rw [Int.toNat_natCast] at hU
  generalize (n + 7) / 8 = m at hq hU ⊢
  refine k_in (N := 14) Try.func16 rfl rfl rfl ?_
  refine k_seq ?_
  refine k_rg ?_
  refine s_run rfl rfl (r_as (v := .pointer _) rfl) ?_
  refine k_nil ?_
  refine c_norm ?_
  refine k_seq ?_
  refine k_rg ?_
  refine s_run rfl rfl (r_mv (v := .slice _ _ _) rfl) ?_
  refine s_run rfl rfl (r_len rfl Try.underlying25) ?_
  refine s_call rfl (hU) (ca64 rfl) ?_
  rintro e W1 ⟨rfl, H'⟩
  refine ⟨_, rfl, ?_⟩
  have H := H.same H'; clear H'
  refine s_run rfl rfl (r_mul rfl rfl (wI (by omega))) ?_
  refine s_mk (Value.int .u64) 0 (m := (8 * m)) H rfl rfl rfl (by omega) (by omega) (by omega) Try.underlying25 inf22 rfl ?_
  intro b _ H'; clear H; have H := H'; clear H'
  refine s_run rfl rfl (r_as (v := .slice _ _ _) rfl) ?_
  refine k_nil ?_
  refine c_norm ?_
  refine k_seq ?_
  refine k_rg ?_
  refine s_run rfl rfl (r_mv (v := .slice _ _ _) rfl) ?_
  refine s_run rfl rfl (r_mv (v := .slice _ _ _) rfl) ?_
  refine s_cpr (enc := (Value.int .u64)) H 0 rfl rfl rfl rfl (hz) (hl) (fun _ => rfl) (by first | omega | (simp; omega)) Try.underlying25 inf22 ?_
  intro _ H'; simp only [List.set_cons_zero, List.set_cons_succ, List.take_succ_cons, List.take_zero, List.drop_succ_cons, List.drop_zero, List.cons_append, List.nil_append, List.append_nil, List.length_cons, List.length_nil, Nat.reduceAdd] at H'; clear H; have H := H'; clear H'
  refine k_nil ?_
  refine c_norm ?_
  refine k_seq ?_
  refine k_rg ?_
  refine s_run rfl rfl (r_mv (v := .slice _ _ _) rfl) ?_
  refine s_call rfl (nload b (8 * m) m _ _ H.ents (by simp; omega) hq.1 (by omega)) (ca65 rfl) ?_
  rintro e W1 ⟨g, rfl, hg, H'⟩
  refine ⟨_, rfl, ?_⟩
  have H := H.whole H'; clear H'
  refine s_run rfl rfl (r_as (v := .pointer _) rfl) ?_
  refine k_nil ?_
  refine c_norm ?_
  refine k_ret ?_
  refine fin1r (v := .pointer _) rfl rfl ?_
  refine ⟨g, rfl, hg, ?_⟩
  rw [List.drop_replicate] at H
  exact H
end Go.Proofs.Ytmekhdclnhhhbaa
